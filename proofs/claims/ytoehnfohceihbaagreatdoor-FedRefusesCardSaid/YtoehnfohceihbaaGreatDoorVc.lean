/- The abstract machine V over any loaded program, part 3: its operations, its rules, its soundness, its evaluator. Conditions: none. -/
import Derived.Test.YtoehnfohceihbaaGreatDoorVb
import Derived.Below
import Derived.Laws.AppendOwn
import Derived.Lib.Join
import Derived.ProofKit

set_option linter.unusedVariables false
set_option linter.unusedSimpArgs false
namespace Go.Vx

/-- the contract of strings.Join, as the shelf has it -/
structure JoinSpec (P : Program) (f : FuncId) : Prop where
  ent : Enterable P f
  nil : ∀ (a : Option Addr) (c : Nat) (sep : ByteArray) (w : World), Calls P f #[.slice a 0 c, .string sep] w fun e w' => e = .returned (.string ⟨#[]⟩) ∧ w' = w
  some : ∀ (bk o c : Nat) (xs : List ByteArray) (sep : ByteArray) (w : World), (∀ (j : Nat) x, xs[j]? = some x → w.cell? ⟨bk, o + j, none⟩ = some (.string x)) → bk < w.heap.size → xs.length ≤ 140737488355328 → xs.length ≤ c →
    (Lib.join (xs.map (·.data.toList)) sep.data.toList).length ≤ 140737488355328 →
    Calls P f #[.slice (some ⟨bk, o, none⟩) xs.length c, .string sep] w fun e w' => e = .returned (.string ⟨(Lib.join (xs.map (·.data.toList)) sep.data.toList).toArray⟩) ∧ Go.RowKit.Below w.heap.size w w'

theorem strsV_sound {β : Bm} : ∀ {l : List Val} {us : List Value} {ss : List (List Nat)}, VRs β l us → strsV l = some ss → ∃ xs : List ByteArray, us = xs.map Value.string ∧ ss = xs.map toNs
  | _, _, ss, .nil, h => by simp [strsV] at h; subst h; exact ⟨[], rfl, rfl⟩
  | _, _, ss, .cons v u l us hv hl, h => by
    cases v <;> simp only [strsV, reduceCtorEq] at h
    rename_i s
    cases hr : strsV l with
    | none => simp [hr] at h
    | some r =>
      simp only [hr, Option.some.injEq] at h
      subst h
      obtain ⟨xs, rfl, rfl⟩ := strsV_sound hl hr
      obtain ⟨S, rfl, rfl⟩ := hv.str_inv rfl
      exact ⟨S :: xs, rfl, rfl⟩

theorem joinL_eq (sep : List UInt8) : ∀ xs : List (List UInt8), joinL (sep.map UInt8.toNat) (xs.map (·.map UInt8.toNat)) = (Lib.join xs sep).map UInt8.toNat
  | [] => rfl
  | [x] => by rw [Lib.join_one]; rfl
  | x :: y :: r => by
    have ih := joinL_eq sep (y :: r)
    have h : Lib.join (x :: y :: r) sep = x ++ sep ++ Lib.join (y :: r) sep := by
      rw [Lib.join_cons, Lib.join_cons]
      simp [Lib.joinTail]
    rw [h]
    simp only [List.map_cons] at ih ⊢
    rw [joinL, lappR_eq, lappR_eq, lapp_eq, lapp_eq, ih]
    · simp
    · intro h; cases h

theorem join_ok {P : Program} {f : FuncId} (J : JoinSpec P f) {B0 : Nat} {β : Bm} {W : St} {w : World} (hrel : Rel B0 β W w) {xs : List Val} {args : Array Value} (hx : VRs β xs args.toList) {e : Ef} (h : joinV xs W.h W.nx = some e) :
    Calls P f args w fun q w' => ∃ β' u, q = .returned u ∧ VR β' e.v u ∧ Sim B0 β W w β' (W.eff e) w' := by
  unfold joinV at h
  split at h
  · rename_i s
    simp only [Option.some.injEq] at h
    subst h
    cases args with | mk l =>
    cases hx with | cons _ u1 _ l1 h1 hx =>
    cases hx with | cons _ u2 _ l2 h2 hx =>
    cases hx
    cases h1
    obtain ⟨S, rfl, _⟩ := h2.str_inv rfl
    refine (J.nil none 0 S w).mono ?_
    rintro q w' ⟨rfl, rfl⟩
    exact ⟨β, _, rfl, .str ⟨#[]⟩, Sim.refl hrel⟩
  · rename_i b o n cap sep
    split at h
    · rename_i c el z op ro hb
      cases hc : (capOk n z cap && Nat.ble n 1073741824) with
      | false => rw [hc] at h; cases h
      | true =>
        rw [hc] at h
        simp only [cond_true, lsubR_eq, llenR_eq] at h
        simp only [Bool.and_eq_true] at hc
        obtain ⟨hc1, hc2⟩ := hc
        have hn := Nat.le_of_ble_eq_true hc2
        split at h
        · rename_i l hl
          split at h
          · rename_i ss hss
            cases hbd : Nat.ble (llen (joinL sep ss)) 1073741824 with
            | false => rw [hbd] at h; cases h
            | true =>
              rw [hbd] at h
              simp only [cond_true, Option.some.injEq] at h
              subst h
              have hbd' := Nat.le_of_ble_eq_true hbd
              rw [llen_eq] at hbd'
              cases args with | mk la =>
              cases hx with | cons _ u1 _ l1 h1 hx =>
              cases hx with | cons _ u2 _ l2 h2 hx =>
              cases hx
              obtain ⟨S, rfl, rfl⟩ := h2.str_inv rfl
              obtain ⟨L, cp, hL, rfl, hcap⟩ := h1.sl_inv rfl
              obtain ⟨vs, g1, g2, g3⟩ := cells_there hrel hL hb hl
              obtain ⟨zs, rfl, rfl⟩ := strsV_sound g2 hss
              have hzl : zs.length = n := by simpa using g1
              subst hzl
              have hbr := hrel.blk b L hL
              have hlt := hbr.lt (by rw [hb]; trivial)
              rw [hb] at hbr
              obtain ⟨cs, fz, b1, b2, b3, b4, _⟩ := hbr
              have hcp : zs.length ≤ cp := by
                rcases hcap with rfl | ⟨rfl, hex⟩
                · exact Nat.le_of_ble_eq_true hc1
                · have hz1 := Nat.eq_of_beq_eq_true hc1
                  rw [b3, hz1] at hex
                  rcases lsub_len hl with h0 | h0
                  · omega
                  · omega
              have hj : joinL (toNs S) (zs.map toNs) = (Lib.join (zs.map (·.data.toList)) S.data.toList).map UInt8.toNat := by
                have := joinL_eq S.data.toList (zs.map (·.data.toList))
                rw [← this]
                congr 1
                simp [toNs]
              rw [hj] at hbd'
              rw [List.length_map] at hbd'
              refine (J.some L.r (L.base + o) cp zs S w (fun j x hjx => ?_) hlt (by omega) hcp (by omega)).mono ?_
              · have := g3 j (.string x) (by rw [List.getElem?_map, hjx]; rfl)
                rwa [add_cell] at this
              · rintro q w' ⟨rfl, hbel⟩
                refine ⟨β, _, rfl, ?_, Sim.grown hrel (fun R o' hR => ?_) hbel.size hbel.tape hbel.os hbel.output⟩
                · rw [hj]
                  exact .str ⟨(Lib.join (zs.map (·.data.toList)) S.data.toList).toArray⟩
                · rw [hbel.block R (getElem?_lt hR)]; exact hR
          · cases h
        · cases h
    · cases h
  · cases h

end Go.Vx

/- The machine V's rules: what is known of functions beside their text may grow. Conditions: none. -/
set_option linter.unusedVariables false
namespace Go.Vx

theorem Ev.mono {I J : Intr} {p : Nat → Option VF} (hIJ : ∀ f xs W K, I f xs W K → J f xs W K) {c : C} {a : Tm} {W : St} {K : Out → Prop} (h : Ev I p c a W K) : Ev J p c a W K := by
  induction h with
  | skip hk => exact .skip hk
  | seq _ _ he hr ih1 ih2 => exact .seq ih1 ih2 he hr
  | cond b hx _ ih => exact .cond b hx ih
  | block _ hn he hr ih => exact .block ih hn he hr
  | loop _ _ he hr ih ihn => exact .loop ih ihn he hr
  | scope _ ih => exact .scope ih
  | exit hk => exact .exit hk
  | ret hk => exact .ret hk
  | nil hk => exact .nil hk
  | off hw _ ih => exact .off hw ih
  | pu hw hx he _ ih => exact .pu hw hx he ih
  | rd hw hx he _ ih => exact .rd hw hx he ih
  | ef hw hx he _ ih => exact .ef hw hx he ih
  | efs hw hx he _ ih => exact .efs hw hx he ih
  | call r hw ha hp _ hr _ he ihb ihl => exact .call r hw ha hp ihb hr ihl he
  | intr hw ha hi _ ih => exact .intr hw ha (hIJ _ _ _ _ hi) ih
  | weak hc hw _ ih => exact .weak hc hw ih
  | dnil hk => exact .dnil hk
  | doff hw _ ih => exact .doff hw ih
  | dpu hw hx he _ ih => exact .dpu hw hx he ih
  | drd hw hx he _ ih => exact .drd hw hx he ih
  | «def» hw hx he hr _ ih => exact .def hw hx he hr ih
  | dcall r g hw ha hp _ hr _ he ihb ihl => exact .dcall r g hw ha hp ihb hr ihl he
  | dintr g hw ha hi hr _ ih => exact .dintr g hw ha (hIJ _ _ _ _ hi) hr ih

/-- .. the end may be told more weakly -/
theorem IOk.or {P : Program} {B0 : Nat} {I J : Intr} (h : IOk P B0 I) (h' : IOk P B0 J) : IOk P B0 (fun f xs W K => I f xs W K ∨ J f xs W K) := fun f xs W K hi => hi.elim (h f xs W K) (h' f xs W K)

end Go.Vx

/- A remainder made non-negative, as the machine V goes through it. Conditions: none. -/
set_option linter.unusedVariables false
namespace Go.Vx

def wiC : C := (.seq (.ops [⟨.pu (.move (.c (.int .i64 (0)))), some 4, none⟩]) (.seq (.ops [⟨.pu (.move (.t 0)), some 6, none⟩, ⟨.pu (.move (.t 1)), some 7, none⟩, ⟨.pu (.bin .rem (.t 6) (.t 7)), some 8, none⟩, ⟨.pu (.move (.t 8)), some 5, none⟩]) (.seq (.seq (.ops [⟨.pu (.move (.t 5)), some 9, none⟩, ⟨.pu (.bin .lss (.t 9) (.c (.int .i64 (0)))), some 10, none⟩]) (.cond (.t 10) (.ops [⟨.pu (.move (.t 5)), some 11, none⟩, ⟨.pu (.move (.t 1)), some 12, none⟩, ⟨.pu (.bin .add (.t 11) (.t 12)), some 13, none⟩, ⟨.pu (.move (.t 13)), some 5, none⟩]) .skip)) (.seq (.ops [⟨.pu (.move (.t 5)), some 14, none⟩, ⟨.pu (.move (.t 14)), some 4, none⟩]) .ret))))

theorem within_go (I : Intr) (p : Nat → Option VF) (x : Int) (k : Nat) (W : St) (y : Int) (r : Nat) (b : Bool) (hz : veq (.ofNat k) 0 = false) (hy : Int.tmod x (.ofNat k) = y) (hb : vlt y 0 = b) (hr : r < k)
    (h0 : b = false → y = .ofNat r) (h1 : b = true → vwrap .i64 (vadd y (.ofNat k)) = .ofNat r) : Ev I p wiC (enter [.int .i64 x, .int .i64 (.ofNat k)]) W (fun o => ∃ a' r, o = .ret a' W ∧ r < k ∧ a' 4 = .int .i64 (.ofNat r)) := by
  refine .seq (K1 := fun o => o = .norm _ W) (.pu rfl rfl rfl (.nil rfl)) (fun a' w' e => ?_) (fun i a' w' e => by cases e) (fun a' w' e => by cases e)
  cases e
  refine .seq (K1 := fun o => o = .norm _ W) (.pu rfl rfl rfl (.pu rfl rfl rfl (.pu (v := .int .i64 y) rfl rfl ?_ (.pu rfl rfl rfl (.nil rfl))))) (fun a' w' e => ?_) (fun i a' w' e => by cases e) (fun a' w' e => by cases e)
  · show (bif veq (.ofNat k) 0 then none else some (Val.int .i64 (Int.tmod x (.ofNat k)))) = _
    rw [hz, hy]; rfl
  cases e
  refine .seq (K1 := fun o => ∃ a1, o = .norm a1 W ∧ a1 5 = .int .i64 (.ofNat r)) (.seq (K1 := fun o => o = .norm _ W) (.pu rfl rfl rfl (.pu (v := .bool b) rfl rfl ?_ (.nil rfl))) (fun a' w' e => ?_) (fun i a' w' e => by cases e) (fun a' w' e => by cases e)) (fun a' w' e => ?_) (fun i a' w' ⟨a1, e, _⟩ => by cases e) (fun a' w' ⟨a1, e, _⟩ => by cases e)
  · show some (Val.bool (vlt y 0)) = _
    rw [hb]
  · cases e
    refine .cond b rfl ?_
    cases b with
    | false => exact .skip ⟨_, rfl, by show Val.int .i64 y = _; rw [h0 rfl]⟩
    | true =>
      refine .pu rfl rfl rfl (.pu rfl rfl rfl (.pu (v := .int .i64 (.ofNat r)) rfl rfl ?_ (.pu rfl rfl rfl (.nil ⟨_, rfl, rfl⟩))))
      show some (Val.int .i64 (vwrap .i64 (vadd y (.ofNat k)))) = _
      rw [h1 rfl]
  · obtain ⟨a1, e, h5⟩ := e
    cases e
    refine .seq (K1 := fun o => o = .norm _ W) (.pu rfl rfl rfl (.pu rfl rfl rfl (.nil rfl))) (fun a' w' e => ?_) (fun i a' w' e => by cases e) (fun a' w' e => by cases e)
    cases e
    exact .ret ⟨_, r, rfl, hr, h5⟩

theorem within_ev (I : Intr) (p : Nat → Option VF) (x : Int) (k : Nat) (hk : 0 < k) (hk2 : k < 1000) (W : St) : Ev I p wiC (enter [.int .i64 x, .int .i64 (.ofNat k)]) W (fun o => ∃ a' r, o = .ret a' W ∧ r < k ∧ a' 4 = .int .i64 (.ofNat r)) := by
  have hkp : (0 : Int) < (k : Int) := by omega
  have h1 : Int.tmod x (k : Int) < (k : Int) := Int.tmod_lt_of_pos x hkp
  have h2 : -(k : Int) < Int.tmod x (k : Int) := Int.lt_tmod_of_pos x hkp
  have hz : veq (.ofNat k) 0 = false := by
    rw [veq_eq]
    have : ¬ ((Int.ofNat k) = 0) := by
      intro h
      have : k = 0 := Int.ofNat.inj h
      omega
    simpa using this
  generalize hy : Int.tmod x (k : Int) = y at h1 h2
  by_cases hn : y < 0
  · obtain ⟨r, hr⟩ : ∃ r : Nat, y + (k : Int) = (r : Int) := ⟨(y + k).toNat, by omega⟩
    refine within_go I p x k W y r true hz hy (by rw [vlt_eq]; simpa using hn) (by omega) (fun h => by cases h) fun _ => ?_
    rw [vadd_eq, show y + Int.ofNat k = Int.ofNat r from hr, vwrap_eq]
    exact i64_ofNat r (by omega)
  · obtain ⟨r, hr⟩ : ∃ r : Nat, y = (r : Int) := ⟨y.toNat, by omega⟩
    exact within_go I p x k W y r false hz hy (by rw [vlt_eq]; simpa using hn) (by omega) (fun _ => hr) (fun h => by cases h)

end Go.Vx

/- slices.Insert, at elements of two cells or more, as the machine V goes through it where the capacity is known. Conditions: none. -/
set_option linter.unusedVariables false
namespace Go.Vx

def insB (el s by0 : Nat) (z : List Val) : C := (.seq (.ops [⟨.pu (.move (.t 0)), some 32, none⟩, ⟨.pu (.move (.t 1)), some 33, none⟩, ⟨.rd (.sliceS s (.t 32) none (some (.t 33)) none), some 34, none⟩, ⟨.pu (.move (.t 8)), some 35, none⟩, ⟨.pu (.move (.t 7)), some 36, none⟩, ⟨.pu (.bin .add (.t 35) (.t 36)), some 37, none⟩, ⟨.pu (.move (.t 1)), some 38, none⟩, ⟨.pu (.bin .sub (.t 37) (.t 38)), some 39, none⟩, ⟨.ef (.appendZ el s by0 z (.t 34) (.t 39)), some 40, none⟩, ⟨.pu (.move (.t 40)), some 9, none⟩]) (.seq (.ops [⟨.pu (.move (.t 9)), some 41, none⟩, ⟨.pu (.move (.t 1)), some 42, none⟩, ⟨.rd (.sliceS s (.t 41) (some (.t 42)) none none), some 43, none⟩, ⟨.pu (.move (.t 2)), some 44, none⟩, ⟨.ef (.copy s (.t 43) (.t 44)), some 45, none⟩]) (.seq (.drw [(⟨.pu (.move (.t 9)), some 46, none⟩, 0, [9]), (⟨.pu (.move (.t 1)), some 47, none⟩, 0, [1]), (⟨.pu (.move (.t 7)), some 48, none⟩, 0, [7]), (⟨.pu (.bin .add (.t 47) (.t 48)), some 49, none⟩, 0, [47, 48]), (⟨.rd (.sliceS s (.t 46) (some (.t 49)) none none), some 50, none⟩, 0, [46, 49]), (⟨.pu (.move (.t 0)), some 51, none⟩, 0, [0]), (⟨.pu (.move (.t 1)), some 52, none⟩, 0, [1]), (⟨.rd (.sliceS s (.t 51) (some (.t 52)) none none), some 53, none⟩, 0, [51, 52]), (⟨.ef (.copy s (.t 50) (.t 53)), some 54, none⟩, 0, [50, 53])] []) (.seq (.ops [⟨.pu (.move (.t 9)), some 55, none⟩, ⟨.pu (.move (.t 55)), some 6, none⟩]) .ret))))
def insS (s : Nat) : C := (.seq (.drw [(⟨.pu (.move (.t 0)), some 69, none⟩, 0, [0]), (⟨.pu (.move (.t 1)), some 70, none⟩, 0, [1]), (⟨.pu (.move (.t 7)), some 71, none⟩, 0, [7]), (⟨.pu (.bin .add (.t 70) (.t 71)), some 72, none⟩, 0, [70, 71]), (⟨.rd (.sliceS s (.t 69) (some (.t 72)) none none), some 73, none⟩, 0, [69, 72]), (⟨.pu (.move (.t 0)), some 74, none⟩, 0, [0]), (⟨.pu (.move (.t 1)), some 75, none⟩, 0, [1]), (⟨.rd (.sliceS s (.t 74) (some (.t 75)) none none), some 76, none⟩, 0, [74, 75]), (⟨.ef (.copy s (.t 73) (.t 76)), some 77, none⟩, 0, [73, 76])] []) (.seq (.ops [⟨.pu (.move (.t 0)), some 78, none⟩, ⟨.pu (.move (.t 1)), some 79, none⟩, ⟨.rd (.sliceS s (.t 78) (some (.t 79)) none none), some 80, none⟩, ⟨.pu (.move (.t 2)), some 81, none⟩, ⟨.ef (.copy s (.t 80) (.t 81)), some 82, none⟩]) (.seq (.ops [⟨.pu (.move (.t 0)), some 83, none⟩, ⟨.pu (.move (.t 83)), some 6, none⟩]) .ret)))
def insR (s cl : Nat) : C := (.seq (.ops [⟨.pu (.move (.t 0)), some 56, none⟩, ⟨.pu (.move (.t 8)), some 57, none⟩, ⟨.pu (.move (.t 7)), some 58, none⟩, ⟨.pu (.bin .add (.t 57) (.t 58)), some 59, none⟩, ⟨.rd (.sliceS s (.t 56) none (some (.t 59)) none), some 60, none⟩, ⟨.pu (.move (.t 60)), some 0, none⟩]) (.seq (.seq (.ops [⟨.pu (.move (.t 2)), some 61, none⟩, ⟨.pu (.move (.t 0)), some 62, none⟩, ⟨.pu (.move (.t 1)), some 63, none⟩, ⟨.pu (.move (.t 7)), some 64, none⟩, ⟨.pu (.bin .add (.t 63) (.t 64)), some 65, none⟩, ⟨.rd (.sliceS s (.t 62) (some (.t 65)) none none), some 66, none⟩, ⟨.rd (.overl s (.t 61) (.t 66)), some 67, none⟩, ⟨.pu (.un .not (.t 67)), some 68, none⟩]) (.cond (.t 68) (insS s) .skip)) (.seq (.ops [⟨.pu (.move (.t 0)), some 84, none⟩, ⟨.pu (.move (.t 8)), some 85, none⟩, ⟨.rd (.sliceS s (.t 84) (some (.t 85)) none none), some 86, none⟩, ⟨.pu (.move (.t 2)), some 87, none⟩, ⟨.ef (.copy s (.t 86) (.t 87)), some 88, none⟩]) (.seq (.ops [⟨.pu (.move (.t 0)), some 89, none⟩, ⟨.pu (.move (.t 1)), some 90, none⟩, ⟨.rd (.sliceS s (.t 89) (some (.t 90)) none none), some 91, none⟩, ⟨.pu (.move (.t 7)), some 92, none⟩, ⟨.call cl [(.t 91), (.t 92)], some 93, none⟩]) (.seq (.ops [⟨.pu (.move (.t 0)), some 94, none⟩, ⟨.pu (.move (.t 94)), some 6, none⟩]) .ret)))))
def insC (el s by0 : Nat) (z : List Val) (cl : Nat) : C := (.seq (.ops [⟨.pu (.move (.c .nils)), some 6, none⟩]) (.seq (.ops [⟨.pu (.move (.t 0)), some 10, none⟩, ⟨.pu (.move (.t 1)), some 11, none⟩, ⟨.rd (.sliceS s (.t 10) (some (.t 11)) none none), some 12, none⟩]) (.seq (.ops [⟨.pu (.move (.t 2)), some 13, none⟩, ⟨.pu (.len (.t 13)), some 14, none⟩, ⟨.pu (.move (.t 14)), some 7, none⟩]) (.seq (.seq (.ops [⟨.pu (.move (.t 7)), some 15, none⟩, ⟨.pu (.bin .eql (.t 15) (.c (.int .i64 (0)))), some 16, none⟩]) (.cond (.t 16) (.seq (.ops [⟨.pu (.move (.t 0)), some 17, none⟩, ⟨.pu (.move (.t 17)), some 6, none⟩]) .ret) .skip)) (.seq (.ops [⟨.pu (.move (.t 0)), some 18, none⟩, ⟨.pu (.len (.t 18)), some 19, none⟩, ⟨.pu (.move (.t 19)), some 8, none⟩]) (.seq (.seq (.ops [⟨.pu (.move (.t 1)), some 20, none⟩, ⟨.pu (.move (.t 8)), some 21, none⟩, ⟨.pu (.bin .eql (.t 20) (.t 21)), some 22, none⟩]) (.cond (.t 22) (.seq (.ops [⟨.pu (.move (.t 0)), some 23, none⟩, ⟨.pu (.move (.t 2)), some 24, none⟩, ⟨.ef (.append el s by0 (.t 23) (.t 24)), some 25, none⟩, ⟨.pu (.move (.t 25)), some 6, none⟩]) .ret) .skip)) (.seq (.seq (.ops [⟨.pu (.move (.t 8)), some 26, none⟩, ⟨.pu (.move (.t 7)), some 27, none⟩, ⟨.pu (.bin .add (.t 26) (.t 27)), some 28, none⟩, ⟨.pu (.move (.t 0)), some 29, none⟩, ⟨.pu (.cap (.t 29)), some 30, none⟩, ⟨.pu (.bin .gtr (.t 28) (.t 30)), some 31, none⟩]) (.cond (.t 31) (insB el s by0 z) .skip)) (insR s cl))))))))

theorem big_of {n : Nat} (h : n ≤ 4611686018427387904) : big64 n = true := Nat.ble_eq_true_of_le h
theorem vwrap_big {n : Nat} (h : n ≤ 4611686018427387904) : vwrap .i64 (.ofNat n) = .ofNat n := by
  show (bif (bif small64 .i64 then big64 n else false) then Int.ofNat n else _) = _
  rw [big_of h]; rfl

section
variable {a : Tm} {h : Nat → Blk}

theorem ex_add {x y : Opd} {p q : Nat} (hx : x.ev a = .int .i64 (.ofNat p)) (hy : y.ev a = .int .i64 (.ofNat q)) (hb : p + q ≤ 4611686018427387904) : PuOp.ex a (.bin .add x y) = some (.int .i64 (.ofNat (p + q))) := by
  show binOpV .add (x.ev a) (y.ev a) = _
  rw [hx, hy]
  show some (Val.int .i64 (vwrap .i64 (.ofNat (p + q)))) = _
  rw [vwrap_big hb]
theorem ex_sub {x y : Opd} {p q : Nat} (hx : x.ev a = .int .i64 (.ofNat p)) (hy : y.ev a = .int .i64 (.ofNat q)) (hle : q ≤ p) (hb : p ≤ 4611686018427387904) : PuOp.ex a (.bin .sub x y) = some (.int .i64 (.ofNat (p - q))) := by
  show binOpV .sub (x.ev a) (y.ev a) = _
  rw [hx, hy]
  show some (Val.int .i64 (vwrap .i64 (bif Nat.ble q p then .ofNat (p - q) else _))) = _
  rw [Nat.ble_eq_true_of_le hle, cond_true, vwrap_big (by omega)]
theorem ex_eql {x y : Opd} {p q : Nat} (hx : x.ev a = .int .i64 (.ofNat p)) (hy : y.ev a = .int .i64 (.ofNat q)) : PuOp.ex a (.bin .eql x y) = some (.bool (Nat.beq p q)) := by
  show binOpV .eql (x.ev a) (y.ev a) = _
  rw [hx, hy]
  rfl
theorem ex_gtr {x y : Opd} {p q : Nat} (hx : x.ev a = .int .i64 (.ofNat p)) (hy : y.ev a = .int .i64 (.ofNat q)) : PuOp.ex a (.bin .gtr x y) = some (.bool (Nat.ble (Nat.succ q) p)) := by
  show binOpV .gtr (x.ev a) (y.ev a) = _
  rw [hx, hy]
  rfl
theorem beq_false {p q : Nat} (h : p ≠ q) : Nat.beq p q = false := by
  cases hb : Nat.beq p q
  · rfl
  · exact absurd (Nat.eq_of_beq_eq_true hb) h
theorem ble_false {p q : Nat} (h : q < p) : Nat.ble p q = false := by
  cases hb : Nat.ble p q
  · rfl
  · have := Nat.le_of_ble_eq_true hb; omega

/-- a slice of a slice whose capacity is known -/
theorem ex_sl {s b o n c l k : Nat} {x : Opd} {lo hi : Option Opd} (hx : x.ev a = .sl b o n (some c)) (hlo : optNat a 0 lo = some l) (hhi : optNat a n hi = some k) (h1 : l ≤ k) (h2 : k ≤ c) :
    RdOp.ex a h (.sliceS s x lo hi none) = some (bif Nat.beq c l then .sl b o 0 (some 0) else .sl b (o + l * s) (k - l) (some (c - l))) := by
  have hmx : ∀ d, optNat a d none = some d := fun _ => rfl
  simp only [RdOp.ex, hx, knownCap, hlo, hhi, hmx]
  rw [Nat.ble_eq_true_of_le h1, Nat.ble_eq_true_of_le h2, Nat.ble_eq_true_of_le (Nat.le_refl c)]
  cases Nat.beq c l <;> rfl
theorem ex_sl' {s b o n c l k : Nat} {x : Opd} {lo hi : Option Opd} (hx : x.ev a = .sl b o n (some c)) (hlo : optNat a 0 lo = some l) (hhi : optNat a n hi = some k) (h1 : l ≤ k) (h2 : k ≤ c) (h3 : l < c) :
    RdOp.ex a h (.sliceS s x lo hi none) = some (.sl b (o + l * s) (k - l) (some (c - l))) := by
  rw [ex_sl hx hlo hhi h1 h2, beq_false (by omega)]; rfl
/-- .. from its start on -/
theorem ex_sl0 {s b o n c k : Nat} {x : Opd} {hi : Option Opd} (hx : x.ev a = .sl b o n (some c)) (hhi : optNat a n hi = some k) (h2 : k ≤ c) (h3 : 0 < c) :
    RdOp.ex a h (.sliceS s x none hi none) = some (.sl b o k (some c)) := by
  rw [ex_sl' (l := 0) (k := k) hx rfl hhi (Nat.zero_le _) h2 h3]
  simp
/-- .. whose capacity is not -/
theorem ex_sn {s b o n l k : Nat} {x : Opd} {lo hi : Option Opd} {cs : List Val} {e : Nat} {op ro : Bool} (hx : x.ev a = .sl b o n none) (hb : h b = .cells cs e s op ro) (hs : 0 < s) (hlo : optNat a 0 lo = some l) (hhi : optNat a n hi = some k) (h1 : l ≤ k) (h2 : o + k * s ≤ cs.length) (h3 : o + (l + 1) * s ≤ cs.length) :
    RdOp.ex a h (.sliceS s x lo hi none) = some (.sl b (o + l * s) (k - l) none) := by
  have hq : ∀ j, o + j * s ≤ cs.length → Nat.ble j (Nat.div (Nat.sub (llen cs) o) s) = true := fun j hj => by
    apply Nat.ble_eq_true_of_le
    rw [llen_eq]
    show j ≤ (cs.length - o) / s
    rw [Nat.le_div_iff_mul_le hs]
    omega
  have hbb : Nat.beq s s = true := by simp
  have hmx : ∀ d, optNat a d none = some d := fun _ => rfl
  simp only [RdOp.ex, hx, knownCap, hb, hbb, cond_true, hlo, hhi, hmx]
  rw [Nat.ble_eq_true_of_le h1, hq k h2, Nat.ble_eq_true_of_le (Nat.le_refl _), hq (l + 1) h3]
  rfl
/-- copy, into cells that are known -/
theorem ex_copy {s b o n m nx : Nat} {c : Option Nat} {x y : Opd} {l : List Val} {cs cs' : List Val} {e z : Nat} {op : Bool} (hx : x.ev a = .sl b o n c) (hm : lenOf (y.ev a) = some m) (hf : firstC h s (min n m) (y.ev a) = some l) (hb : h b = .cells cs e z op false) (hok : okAll l = true) (hp : lput cs o l = some cs') :
    EfOp.ex a h nx (.copy s x y) = some ⟨.int .i64 (.ofNat (min n m)), [(b, .cells cs' e z op false)], nx⟩ := by
  simp only [EfOp.ex, hx, hm, hf, hb, hok, hp, cond_false, cond_true]
end
end Go.Vx

/- slices.Insert, at elements of two cells or more: what the machine V's rules come to where the capacity is known. Conditions: none. -/
set_option linter.unusedVariables false
namespace Go.Vx

theorem lput_ex {α : Type} : ∀ (l : List α) (i : Nat) (ys : List α), i + ys.length ≤ l.length → ∃ r, lput l i ys = some r
  | l, i, [], _ => ⟨l, by cases l <;> cases i <;> rfl⟩
  | [], i, _ :: _, h => by simp at h
  | x :: l, 0, y :: ys, h => by
    obtain ⟨r, hr⟩ := lput_ex l 0 ys (by simp at h; omega)
    exact ⟨y :: r, by simp [lput, hr]⟩
  | x :: l, i + 1, y :: ys, h => by
    obtain ⟨r, hr⟩ := lput_ex l i (y :: ys) (by simp at h ⊢; omega)
    exact ⟨x :: r, by simp [lput, hr]⟩
theorem lsub_mk {α : Type} (l : List α) (i k : Nat) (h : i + k ≤ l.length) : lsub l i k = some ((l.drop i).take k) := by
  unfold lsub
  rw [ltake_eq, ldrop_eq, llen_eq]
  have : ((l.drop i).take k).length = k := by simp; omega
  rw [this]
  simp
theorem okAll_iff : ∀ l : List Val, okAll l = true ↔ ∀ x ∈ l, okCell x = true
  | [] => by simp [okAll]
  | x :: l => by
    cases h : okCell x <;> simp [okAll, h, okAll_iff l]
theorem okAll_drop {l : List Val} (h : okAll l = true) (k : Nat) : okAll (l.drop k) = true :=
  (okAll_iff _).2 fun x hx => (okAll_iff _).1 h x (List.mem_of_mem_drop hx)

/-- what is shifted, and what is laid between -/
theorem ins_cells {cs old new tail c2 c3 : List Val} {o S M N : Nat} (hS : S ≤ N) (hold : lsub cs o N = some old) (hN : o + (N + M) ≤ cs.length) (hnl : new.length = M) (htail : lsub cs (o + S) (N - S) = some tail)
    (h2 : lput cs (o + (S + M)) tail = some c2) (h3 : lput c2 (o + S) new = some c3) : lsub c3 o (N + M) = some (old.take S ++ (new ++ old.drop S)) ∧ c3.length = cs.length := by
  obtain ⟨p1, p2, p3⟩ := lput_some h2
  obtain ⟨q1, q2, q3⟩ := lput_some h3
  obtain ⟨t1, t2⟩ := lsub_some htail
  obtain ⟨u1, u2⟩ := lsub_some hold
  refine ⟨?_, q1.trans p1⟩
  rw [lsub_mk c3 o (N + M) (by omega)]
  congr 1
  apply List.ext_getElem?
  intro j
  by_cases hj : j < N + M
  · rw [List.getElem?_take, if_pos hj, List.getElem?_drop, q3]
    have ho : ∀ k, k < N → old[k]? = cs[o + k]? := fun k hk => lsub_get hold k hk
    by_cases h1 : j < S
    · rw [if_neg (by omega), p3, if_neg (by omega), List.getElem?_append_left (by simp; omega), List.getElem?_take, if_pos h1, ho j (by omega)]
    · rw [List.getElem?_append_right (by simp; omega)]
      have e1 : j - (old.take S).length = j - S := by simp; omega
      rw [e1]
      by_cases h4 : j < S + M
      · rw [if_pos (by omega), List.getElem?_append_left (by omega)]
        congr 1
        omega
      · rw [if_neg (by omega), p3, if_pos (by omega), List.getElem?_append_right (by omega), hnl, List.getElem?_drop, ho _ (by omega)]
        rw [lsub_get htail _ (by omega)]
        congr 1
        omega
  · rw [List.getElem?_take, if_neg hj, List.getElem?_eq_none (by simp; omega)]

/-- .. in a new row -/
theorem ins_new {old old1 new tail zs c1 c2 : List Val} {S M N : Nat} (hS : S ≤ N) (hol : old.length = N) (h1 : old1 = old.take S) (hz : zs.length = N + M - S) (hnl : new.length = M) (htail : tail = old.drop S)
    (h2 : lput (lapp old1 zs) S new = some c1) (h3 : lput c1 (S + M) tail = some c2) : c2 = old.take S ++ (new ++ old.drop S) := by
  obtain ⟨p1, p2, p3⟩ := lput_some h2
  obtain ⟨q1, q2, q3⟩ := lput_some h3
  subst h1; subst htail
  apply List.ext_getElem?
  intro j
  have l0 : (lapp (old.take S) zs).length = N + M := by rw [lapp_eq]; simp; omega
  rw [q3]
  by_cases g1 : j < S
  · rw [if_neg (by omega), p3, if_neg (by omega), lapp_eq, List.getElem?_append_left (by simp; omega), List.getElem?_append_left (by simp; omega)]
  · rw [List.getElem?_append_right (l₁ := old.take S) (by simp; omega)]
    have e1 : j - (old.take S).length = j - S := by simp; omega
    rw [e1]
    by_cases g2 : j < S + M
    · rw [if_neg (by omega), p3, if_pos (by omega), List.getElem?_append_left (by omega)]
    · rw [List.getElem?_append_right (l₁ := new) (by omega), hnl]
      by_cases g3 : j < N + M
      · rw [if_pos (by simp; omega)]
        congr 1
        omega
      · rw [if_neg (by simp; omega), List.getElem?_eq_none (by rw [p1]; omega), List.getElem?_eq_none (by simp; omega)]

theorem rew0 {w : St} {op : RdOp} {a : Tm} {v : Val} {l : List Wat} (h : rewatch w l l) : rewatch w (⟨0, op, a, v⟩ :: l) (⟨0, op, a, v⟩ :: l) := .inl ⟨rfl, rfl, h⟩

/-- what Insert comes to -/
def insK (el s : Nat) (W : St) (b o n cp i m : Nat) (cs old new : List Val) (out : Out) : Prop :=
  ∃ a' W', out = .ret a' W' ∧ ((cp < n + m ∧ a' 6 = .sl W.nx 0 (n + m) none ∧ W' = ⟨upd W.h W.nx (.cells (old.take (i * s) ++ (new ++ old.drop (i * s))) el s true false), W.nx + 1⟩) ∨
    (n + m ≤ cp ∧ a' 6 = .sl b o (n + m) (some cp) ∧ ∃ c3, W' = ⟨upd W.h b (.cells c3 el s false false), W.nx⟩ ∧ lsub c3 o ((n + m) * s) = some (old.take (i * s) ++ (new ++ old.drop (i * s))) ∧ c3.length = cs.length))

end Go.Vx

/- slices.Insert, at elements of two cells or more: the machine V's rules, where the capacity is known. Conditions: none. -/
set_option linter.unusedVariables false
namespace Go.Vx

theorem upd_upd (h : Nat → Blk) (r : Nat) (x y : Blk) : upd (upd h r x) r y = upd h r y := by
  funext j
  by_cases e : j = r
  · subst e; rw [upd_self, upd_self]
  · rw [upd_ne _ _ e, upd_ne _ _ e, upd_ne _ _ e]

section
variable {I : Intr} {p : Nat → Option VF} {a : Tm} {W : St}
theorem seqE {x y : C} {K : Out → Prop} {a1 : Tm} {W1 : St} (h1 : Ev I p x a W (fun o => o = .norm a1 W1)) (h2 : Ev I p y a1 W1 K) : Ev I p (.seq x y) a W K :=
  .seq h1 (fun a' w' e => by cases e; exact h2) (fun i a' w' e => by cases e) (fun a' w' e => by cases e)
theorem seqR {x y : C} {K : Out → Prop} (h1 : Ev I p x a W K) (hn : ∀ a w, ¬ K (.norm a w)) : Ev I p (.seq x y) a W K :=
  .seq h1 (fun a' w' e => absurd e (hn _ _)) (fun i a' w' e => e) (fun a' w' e => e)
theorem ex_eqlF {x y : Opd} {p q : Nat} (hx : x.ev a = .int .i64 (.ofNat p)) (hy : y.ev a = .int .i64 (.ofNat q)) (h : p ≠ q) : PuOp.ex a (.bin .eql x y) = some (.bool false) := by
  rw [ex_eql hx hy, beq_false h]
theorem ex_eqlT {x y : Opd} {p q : Nat} (hx : x.ev a = .int .i64 (.ofNat p)) (hy : y.ev a = .int .i64 (.ofNat q)) (h : p = q) : PuOp.ex a (.bin .eql x y) = some (.bool true) := by
  rw [ex_eql hx hy, h, Nat.beq_refl]
theorem ex_gtrF {x y : Opd} {p q : Nat} (hx : x.ev a = .int .i64 (.ofNat p)) (hy : y.ev a = .int .i64 (.ofNat q)) (h : p ≤ q) : PuOp.ex a (.bin .gtr x y) = some (.bool false) := by
  rw [ex_gtr hx hy, ble_false (by omega)]
theorem ex_gtrT {x y : Opd} {p q : Nat} (hx : x.ev a = .int .i64 (.ofNat p)) (hy : y.ev a = .int .i64 (.ofNat q)) (h : q < p) : PuOp.ex a (.bin .gtr x y) = some (.bool true) := by
  rw [ex_gtr hx hy, Nat.ble_eq_true_of_le (by omega)]
theorem ex_ov {h : Nat → Blk} {s : Nat} {x y : Opd} {b o n b' o' n' : Nat} {q q' : Option Nat} {c c' : List Val} {e e' : Nat} {op op' : Bool} (hx : x.ev a = .sl b o n q) (hy : y.ev a = .sl b' o' n' q') {z z' : Nat} (hb : h b = .cells c e z op false) (hb' : h b' = .cells c' e' z' op' false) (hne : b ≠ b') (hs : 2 ≤ s) (hz : z ≠ 1) (hz' : z' ≠ 1)
    (h1 : n = 0 ∨ o + n * s ≤ c.length) (h2 : n' = 0 ∨ o' + n' * s ≤ c'.length) (h3 : o ≤ c.length) (h4 : o' ≤ c'.length) : RdOp.ex a h (.overl s x y) = some (.bool false) := by
  have k1 : Nat.ble (Nat.add o (Nat.mul n s)) (llen c) = true := by
    apply Nat.ble_eq_true_of_le
    rw [llen_eq]
    show o + n * s ≤ _
    rcases h1 with h | h
    · subst h; omega
    · exact h
  have k2 : Nat.ble (Nat.add o' (Nat.mul n' s)) (llen c') = true := by
    apply Nat.ble_eq_true_of_le
    rw [llen_eq]
    show o' + n' * s ≤ _
    rcases h2 with h | h
    · subst h; omega
    · exact h
  have k3 : Nat.ble 1 s = true := Nat.ble_eq_true_of_le (by omega)
  have k4 := beq_false hz
  have k5 := beq_false hz'
  simp only [RdOp.ex, hx, hy, beq_false hne, cond_false, hb, hb', k1, k2, k3, k4, k5]
  rfl
theorem nrm {a : Tm} {h h' : Nat → Blk} {n : Nat} (e : h = h') : Out.norm a ⟨h, n⟩ = .norm a ⟨h', n⟩ := by rw [e]
theorem seqG {x y : C} {K : Out → Prop} {Q : Tm → Prop} {W1 : St} (h1 : Ev I p x a W (fun o => ∃ a1, o = .norm a1 W1 ∧ Q a1)) (h2 : ∀ a1, Q a1 → Ev I p y a1 W1 K) : Ev I p (.seq x y) a W K :=
  .seq h1 (fun a' w' ⟨a1, e, q⟩ => by cases e; exact h2 _ q) (fun i a' w' ⟨a1, e, q⟩ => by cases e) (fun a' w' ⟨a1, e, q⟩ => by cases e)
end

/-- the slots that Insert goes on with -/
def insQ (x0 : Val) (i n m : Nat) (x2 : Val) (a : Tm) : Prop := a 0 = x0 ∧ a 1 = .int .i64 (.ofNat i) ∧ a 2 = x2 ∧ a 7 = .int .i64 (.ofNat m) ∧ a 8 = .int .i64 (.ofNat n)

/-- there is room: what stands behind is shifted -/
theorem insR_ev (I : Intr) (p : Nat → Option VF) {el s cl : Nat} {W : St} {a : Tm} {b o n cp i vb vo m : Nat} {vcap : Option Nat} {cs vc old new : List Val} {ve vz : Nat} {vop : Bool} (hvz : vz ≠ 1)
    (hb : W.h b = .cells cs el s false false) (hvb : W.h vb = .cells vc ve vz vop false) (hne : b ≠ vb) (hs : 2 ≤ s) (hn : n ≤ cp) (hcp : o + cp * s ≤ cs.length)
    (hold : lsub cs o (n * s) = some old) (hoko : okAll old = true) (hnew : lsub vc vo (m * s) = some new) (hokn : okAll new = true) (hm : 1 ≤ m) (hi : i < n) (hbig : n + m ≤ 1073741824) (hroom : n + m ≤ cp)
    (ha : insQ (.sl b o n (some cp)) i n m (.sl vb vo m vcap) a) : Ev I p (insR s cl) a W (insK el s W b o n cp i m cs old new) := by
  obtain ⟨hol1, hol⟩ := lsub_some hold
  obtain ⟨_, hnl⟩ := lsub_some hnew
  have hms : i * s ≤ n * s := Nat.mul_le_mul_right _ (by omega)
  have hns : n * s ≤ cp * s := Nat.mul_le_mul_right _ hn
  have hm1 : 1 * s ≤ m * s := Nat.mul_le_mul_right _ hm
  have e1 : (i + m) * s = i * s + m * s := Nat.add_mul _ _ _
  have e2 : (n + m) * s = n * s + m * s := Nat.add_mul _ _ _
  have e3 : (n - i) * s = n * s - i * s := Nat.sub_mul _ _ _
  have hvl := lsub_len hnew
  have hno : ∀ a w, ¬ insK el s W b o n cp i m cs old new (.norm a w) := fun a w ⟨a1, W1, e, _⟩ => by cases e
  have hlts : (i + 1) * s ≤ n * s := Nat.mul_le_mul_right _ hi
  have e4 : (i + 1) * s = i * s + s := by rw [Nat.add_mul, Nat.one_mul]
  have htail0 : lsub cs (o + i * s) ((n - i) * s) = some (old.drop (i * s)) := by
    rw [lsub_mk _ _ _ (by omega), hol1, e3]
    congr 1
    rw [List.drop_take, List.drop_drop]
  have hokt := okAll_drop hoko (i * s)
  have hcm : (n + m) * s ≤ cp * s := Nat.mul_le_mul_right _ hroom
  have hims : (i + m + 1) * s ≤ (n + m) * s := Nat.mul_le_mul_right _ (by omega)
  have e5 : (i + m + 1) * s = i * s + m * s + s := by rw [Nat.add_mul, e1, Nat.one_mul]
  have e6 : (n + m - (i + m)) * s = (n + m) * s - (i + m) * s := Nat.sub_mul _ _ _
  obtain ⟨h0, h1, h2, h7, h8⟩ := ha
  unfold insR
  refine seqG (Q := insQ (.sl b o (n + m) (some cp)) i n m (.sl vb vo m vcap)) (W1 := W) (.pu rfl rfl rfl (.pu rfl rfl rfl (.pu rfl rfl rfl (.pu rfl rfl (ex_add (p := n) (q := m) h8 h7 (by omega)) (.rd (v := .sl b o (n + m) (some cp)) rfl rfl (ex_sl0 (k := n + m) h0 rfl hroom (by omega)) (.pu rfl rfl rfl (.nil ⟨_, rfl, rfl, h1, h2, h7, h8⟩))))))) ?_
  clear h0 h1 h2 h7 h8 a
  intro a ⟨h0, h1, h2, h7, h8⟩
  refine seqR (seqG (W1 := W) (Q := fun a => insQ (.sl b o (n + m) (some cp)) i n m (.sl vb vo m vcap) a ∧ a 68 = .bool true) (.pu rfl rfl rfl (.pu rfl rfl rfl (.pu rfl rfl rfl (.pu rfl rfl rfl (.pu rfl rfl (ex_add (p := i) (q := m) h1 h7 (by omega)) (.rd rfl rfl (ex_sl' (l := i + m) (k := n + m) h0 rfl rfl (by omega) hroom (by omega)) (.rd (v := .bool false) rfl rfl ?_ (.pu (v := .bool true) rfl rfl rfl (.nil ⟨_, rfl, ⟨h0, h1, h2, h7, h8⟩, rfl⟩))))))))) ?_) hno
  · exact ex_ov h2 rfl hvb hb (fun e => hne e.symm) hs hvz (by omega) (.inr (by omega)) (.inr (by omega)) (by omega) (by omega)
  clear h0 h1 h2 h7 h8 a
  intro a ⟨⟨h0, h1, h2, h7, h8⟩, h68⟩
  refine .cond true h68 ?_
  show Ev I p (insS s) a W _
  obtain ⟨c2, hc2⟩ := lput_ex cs (o + (i + m) * s) (old.drop (i * s)) (by simp; omega)
  obtain ⟨p1, p2, p3⟩ := lput_some hc2
  obtain ⟨c3, hc3⟩ := lput_ex c2 (o + i * s) new (by omega)
  have hmin : min (n + m - (i + m)) (n + m - i) = n - i := by omega
  unfold insS
  refine seqG (Q := insQ (.sl b o (n + m) (some cp)) i n m (.sl vb vo m vcap)) (W1 := ⟨upd W.h b (.cells c2 el s false false), W.nx⟩) (.dpu rfl rfl rfl (.dpu rfl rfl rfl (.dpu rfl rfl rfl (.dpu rfl rfl (ex_add (p := i) (q := m) h1 h7 (by omega)) (.drd rfl rfl (ex_sl' (l := i + m) (k := n + m) h0 rfl rfl (by omega) hroom (by omega)) (.dpu rfl rfl rfl (.dpu rfl rfl rfl (.drd rfl rfl (ex_sl' (l := i) (k := n + m) h0 (congrArg natOf h1) rfl (by omega) hroom (by omega)) (.def rfl rfl (ex_copy (l := old.drop (i * s)) (cs' := c2) (m := n + m - i) rfl rfl ?_ hb hokt hc2) (rew0 (rew0 trivial)) (.dnil ⟨_, rfl, h0, h1, h2, h7, h8⟩)))))))))) ?_
  · rw [hmin]
    show (match W.h b with | .cells c _ _ _ _ => lsub c (o + i * s) ((n - i) * s) | _ => none) = _
    rw [hb]
    exact htail0
  clear h0 h1 h2 h7 h8 a h68
  intro a ⟨h0, h1, h2, h7, h8⟩
  have hb2 : (upd W.h b (.cells c2 el s false false)) b = .cells c2 el s false false := upd_self _ _ _
  have hvb2 : (upd W.h b (.cells c2 el s false false)) vb = .cells vc ve vz vop false := by rw [upd_ne _ _ (fun e => hne e.symm)]; exact hvb
  have hmin2 : min (n + m - i) m = m := by omega
  refine seqG (Q := insQ (.sl b o (n + m) (some cp)) i n m (.sl vb vo m vcap)) (W1 := ⟨upd W.h b (.cells c3 el s false false), W.nx⟩) (.pu rfl rfl rfl (.pu rfl rfl rfl (.rd rfl rfl (ex_sl' (l := i) (k := n + m) h0 (congrArg natOf h1) rfl (by omega) hroom (by omega)) (.pu rfl rfl rfl (.ef rfl rfl (ex_copy (l := new) (cs' := c3) (m := m) rfl (congrArg lenOf h2) ?_ hb2 hokn hc3) (.nil ⟨_, nrm (upd_upd _ _ _ _), h0, h1, h2, h7, h8⟩)))))) ?_
  · rw [hmin2]
    show firstC _ s m (a 2) = _
    rw [h2]
    show (match (upd W.h b (.cells c2 el s false false)) vb with | .cells c _ _ _ _ => lsub c vo (m * s) | _ => none) = _
    rw [hvb2]
    exact hnew
  clear h0 h1 h2 h7 h8 a
  intro a ⟨h0, h1, h2, h7, h8⟩
  refine seqG (W1 := ⟨upd W.h b (.cells c3 el s false false), W.nx⟩) (Q := fun a => a 6 = .sl b o (n + m) (some cp)) (.pu rfl rfl rfl (.pu rfl rfl rfl (.nil ⟨_, rfl, h0⟩))) ?_
  intro a h6
  obtain ⟨f1, f2⟩ := ins_cells (M := m * s) hms hold (by omega) hnl (by rw [← e3]; exact htail0) (by rw [← e1]; exact hc2) hc3
  exact .ret ⟨_, _, rfl, .inr ⟨hroom, h6, c3, rfl, by rw [e2]; exact f1, f2⟩⟩

end Go.Vx

/- slices.Insert, at elements of two cells or more: the machine V's rules where there is no room, and the whole. Conditions: none. -/
set_option linter.unusedVariables false
namespace Go.Vx

theorem ex_apZ {a : Tm} {h : Nat → Blk} {nx el s by0 : Nat} {z : List Val} {x y : Opd} {b o n c k : Nat} {cs old : List Val} {e sz : Nat} {op ro : Bool} (hx : x.ev a = .sl b o n (some c)) (hy : y.ev a = .int .i64 (.ofNat k)) (hb : h b = .cells cs e sz op ro) (hold : lsub cs o (n * s) = some old) (h1 : c < n + k) (h2 : 1 ≤ k) (h3 : n + k ≤ 1073741824) :
    EfOp.ex a h nx (.appendZ el s by0 z x y) = some ⟨.sl nx 0 (n + k) none, [(nx, .cells (lapp old (lrep k z)) el s true false)], nx + 1⟩ := by
  have q1 : lsub cs o (Nat.mul n s) = some old := hold
  have q2 : Nat.ble (Nat.add n k) c = false := ble_false h1
  have q3 : Nat.ble (Nat.add n k) 1073741824 = true := Nat.ble_eq_true_of_le h3
  have q4 : Nat.ble 1 k = true := Nat.ble_eq_true_of_le h2
  simp only [EfOp.ex, hx, hy, hb, q1, q2, q3, q4, cond_false]
  rfl

theorem insB_ev (I : Intr) (p : Nat → Option VF) {el s by0 : Nat} {z : List Val} {W : St} {a : Tm} {b o n cp i vb vo m : Nat} {vcap : Option Nat} {cs vc old new : List Val} {ve vz : Nat} {vop : Bool} (hvz : vz ≠ 1)
    (hb : W.h b = .cells cs el s false false) (hvb : W.h vb = .cells vc ve vz vop false) (hne : b ≠ vb) (hbx : b ≠ W.nx) (hvx : vb ≠ W.nx) (hs : 2 ≤ s) (hz : z.length = s) (hn : n ≤ cp) (hcp : o + cp * s ≤ cs.length)
    (hold : lsub cs o (n * s) = some old) (hoko : okAll old = true) (hnew : lsub vc vo (m * s) = some new) (hokn : okAll new = true) (hm : 1 ≤ m) (hi : i < n) (hbig : n + m ≤ 1073741824) (hroom : cp < n + m)
    (ha : insQ (.sl b o n (some cp)) i n m (.sl vb vo m vcap) a) : Ev I p (insB el s by0 z) a W (insK el s W b o n cp i m cs old new) := by
  obtain ⟨hol1, hol⟩ := lsub_some hold
  obtain ⟨_, hnl⟩ := lsub_some hnew
  have hms : i * s ≤ n * s := Nat.mul_le_mul_right _ (by omega)
  have hns : n * s ≤ cp * s := Nat.mul_le_mul_right _ hn
  have hm1 : 1 * s ≤ m * s := Nat.mul_le_mul_right _ hm
  have e1 : (i + m) * s = i * s + m * s := Nat.add_mul _ _ _
  have e2 : (n + m) * s = n * s + m * s := Nat.add_mul _ _ _
  have e3 : (n - i) * s = n * s - i * s := Nat.sub_mul _ _ _
  have hlts : (i + 1) * s ≤ n * s := Nat.mul_le_mul_right _ hi
  have e4 : (i + 1) * s = i * s + s := by rw [Nat.add_mul, Nat.one_mul]
  have e6 : (n + m - i) * s = (n + m) * s - i * s := Nat.sub_mul _ _ _
  have hims : (i + m + 1) * s ≤ (n + m) * s := Nat.mul_le_mul_right _ (by omega)
  have e5 : (i + m + 1) * s = i * s + m * s + s := by rw [Nat.add_mul, e1, Nat.one_mul]
  have htail0 : lsub cs (o + i * s) ((n - i) * s) = some (old.drop (i * s)) := by
    rw [lsub_mk _ _ _ (by omega), hol1, e3]
    congr 1
    rw [List.drop_take, List.drop_drop]
  have hokt := okAll_drop hoko (i * s)
  have hold1 : lsub cs o (i * s) = some (old.take (i * s)) := by
    rw [lsub_mk _ _ _ (by omega), hol1]
    congr 1
    rw [List.take_take]
    congr 1
    omega
  obtain ⟨h0, h1, h2, h7, h8⟩ := ha
  have hnm : i + (n + m - i) = n + m := by omega
  generalize hzr : lrep (n + m - i) z = zr
  have hzl : zr.length = n * s + m * s - i * s := by rw [← hzr, lrep_len, hz, e6, e2]
  generalize hc0 : lapp (old.take (i * s)) zr = c0
  have hc0l : c0.length = n * s + m * s := by rw [← hc0, lapp_eq]; simp; omega
  obtain ⟨c1, hc1⟩ := lput_ex c0 (i * s) new (by omega)
  obtain ⟨p1, p2, p3⟩ := lput_some hc1
  obtain ⟨c2, hc2⟩ := lput_ex c1 ((i + m) * s) (old.drop (i * s)) (by simp; omega)
  have hfin := ins_new (M := m * s) hms hol rfl hzl hnl rfl (by rw [hc0]; exact hc1) (by rw [← e1]; exact hc2)
  have hu : ∀ c, (upd W.h W.nx c) W.nx = c := fun c => upd_self _ _ _
  have hub : ∀ c, (upd W.h W.nx c) b = .cells cs el s false false := fun c => by rw [upd_ne _ _ hbx]; exact hb
  have huv : ∀ c, (upd W.h W.nx c) vb = .cells vc ve vz vop false := fun c => by rw [upd_ne _ _ hvx]; exact hvb
  unfold insB
  refine seqG (Q := fun a => insQ (.sl b o n (some cp)) i n m (.sl vb vo m vcap) a ∧ a 9 = .sl W.nx 0 (n + m) none) (W1 := ⟨upd W.h W.nx (.cells c0 el s true false), W.nx + 1⟩)
    (.pu rfl rfl rfl (.pu rfl rfl rfl (.rd rfl rfl (ex_sl0 (k := i) h0 (congrArg natOf h1) (by omega) (by omega)) (.pu rfl rfl rfl (.pu rfl rfl rfl (.pu rfl rfl (ex_add (p := n) (q := m) h8 h7 (by omega)) (.pu rfl rfl rfl (.pu rfl rfl (ex_sub (p := n + m) (q := i) rfl h1 (by omega) (by omega)) (.ef rfl rfl (ex_apZ (k := n + m - i) rfl rfl hb hold1 (by omega) (by omega) (by omega)) (.pu rfl rfl rfl (.nil ⟨_, nrm ?_, ⟨h0, h1, h2, h7, h8⟩, ?_⟩))))))))))) ?_
  · show upd W.h W.nx (.cells (lapp (old.take (i * s)) (lrep (n + m - i) z)) el s true false) = _
    rw [hzr, hc0]
  · show Val.sl W.nx 0 (i + (n + m - i)) none = _
    rw [hnm]
  clear h0 h1 h2 h7 h8 a
  intro a ⟨⟨h0, h1, h2, h7, h8⟩, h9⟩
  have hmin1 : min (n + m - i) m = m := by omega
  refine seqG (Q := fun a => insQ (.sl b o n (some cp)) i n m (.sl vb vo m vcap) a ∧ a 9 = .sl W.nx 0 (n + m) none) (W1 := ⟨upd W.h W.nx (.cells c1 el s true false), W.nx + 1⟩)
    (.pu rfl rfl rfl (.pu rfl rfl rfl (.rd rfl rfl (ex_sn (l := i) (k := n + m) h9 (hu _) (by omega) (congrArg natOf h1) rfl (by omega) (by omega) (by omega)) (.pu rfl rfl rfl (.ef rfl rfl (ex_copy (l := new) (cs' := c1) (m := m) rfl (congrArg lenOf h2) ?_ (hu _) hokn ?_) (.nil ⟨_, nrm (upd_upd _ _ _ _), ⟨h0, h1, h2, h7, h8⟩, h9⟩)))))) ?_
  · rw [hmin1]
    show firstC _ s m (a 2) = _
    rw [h2]
    show (match (upd W.h W.nx (.cells c0 el s true false)) vb with | .cells c _ _ _ _ => lsub c vo (m * s) | _ => none) = _
    rw [huv]
    exact hnew
  · rw [Nat.zero_add]; exact hc1
  clear h0 h1 h2 h7 h8 h9 a
  intro a ⟨⟨h0, h1, h2, h7, h8⟩, h9⟩
  have hmin2 : min (n + m - (i + m)) (n - i) = n - i := by omega
  refine seqG (Q := fun a => a 9 = .sl W.nx 0 (n + m) none) (W1 := ⟨upd W.h W.nx (.cells c2 el s true false), W.nx + 1⟩)
    (.dpu rfl rfl rfl (.dpu rfl rfl rfl (.dpu rfl rfl rfl (.dpu rfl rfl (ex_add (p := i) (q := m) h1 h7 (by omega)) (.drd rfl rfl (ex_sn (l := i + m) (k := n + m) h9 (hu _) (by omega) rfl rfl (by omega) (by omega) (by omega)) (.dpu rfl rfl rfl (.dpu rfl rfl rfl (.drd rfl rfl (ex_sl' (l := i) (k := n) h0 (congrArg natOf h1) rfl (by omega) (by omega) (by omega)) (.def rfl rfl (ex_copy (l := old.drop (i * s)) (cs' := c2) (m := n - i) rfl rfl ?_ (hu _) hokt ?_) (rew0 (rew0 trivial)) (.dnil ⟨_, nrm (upd_upd _ _ _ _), h9⟩)))))))))) ?_
  · rw [hmin2]
    show (match (upd W.h W.nx (.cells c1 el s true false)) b with | .cells c _ _ _ _ => lsub c (o + i * s) ((n - i) * s) | _ => none) = _
    rw [hub]
    exact htail0
  · rw [Nat.zero_add]; exact hc2
  clear h0 h1 h2 h7 h8 h9 a
  intro a h9
  refine seqG (Q := fun a => a 6 = .sl W.nx 0 (n + m) none) (W1 := ⟨upd W.h W.nx (.cells c2 el s true false), W.nx + 1⟩) (.pu rfl rfl rfl (.pu rfl rfl rfl (.nil ⟨_, rfl, h9⟩))) ?_
  intro a h6
  exact .ret ⟨_, _, rfl, .inl ⟨hroom, h6, by rw [← hfin]⟩⟩

theorem ins_ev (I : Intr) (p : Nat → Option VF) {el s by0 cl : Nat} {z : List Val} {W : St} {b o n cp i vb vo m : Nat} {vcap : Option Nat} {cs vc old new : List Val} {ve vz : Nat} {vop : Bool} (hvz : vz ≠ 1)
    (hb : W.h b = .cells cs el s false false) (hvb : W.h vb = .cells vc ve vz vop false) (hne : b ≠ vb) (hbx : b ≠ W.nx) (hvx : vb ≠ W.nx) (hs : 2 ≤ s) (hz : z.length = s) (hn : n ≤ cp) (hcp : o + cp * s ≤ cs.length)
    (hold : lsub cs o (n * s) = some old) (hoko : okAll old = true) (hnew : lsub vc vo (m * s) = some new) (hokn : okAll new = true) (hm : 1 ≤ m) (hi : i ≤ n) (hbig : n + m ≤ 1073741824) :
    Ev I p (insC el s by0 z cl) (enter [.sl b o n (some cp), .int .i64 (.ofNat i), .sl vb vo m vcap]) W (insK el s W b o n cp i m cs old new) := by
  obtain ⟨hol1, hol⟩ := lsub_some hold
  obtain ⟨_, hnl⟩ := lsub_some hnew
  have hns : n * s ≤ cp * s := Nat.mul_le_mul_right _ hn
  have hm1 : 1 * s ≤ m * s := Nat.mul_le_mul_right _ hm
  have hvl := lsub_len hnew
  have hno : ∀ a w, ¬ insK el s W b o n cp i m cs old new (.norm a w) := fun a w ⟨a1, W1, e, _⟩ => by cases e
  have hq : insQ (.sl b o n (some cp)) i n m (.sl vb vo m vcap) (setT (setT (enter [.sl b o n (some cp), .int .i64 (.ofNat i), .sl vb vo m vcap]) 7 (.int .i64 (.ofNat m))) 8 (.int .i64 (.ofNat n))) := ⟨rfl, rfl, rfl, rfl, rfl⟩
  unfold insC
  refine seqE (.pu rfl rfl rfl (.nil rfl)) ?_
  refine seqE (.pu rfl rfl rfl (.pu rfl rfl rfl (.rd rfl rfl (ex_sl rfl rfl rfl hi hn) (.nil rfl)))) ?_
  refine seqE (.pu rfl rfl rfl (.pu rfl rfl rfl (.pu rfl rfl rfl (.nil rfl)))) ?_
  refine seqE (seqE (.pu rfl rfl rfl (.pu rfl rfl (ex_eqlF (p := m) (q := 0) rfl rfl (by omega)) (.nil rfl))) (.cond false rfl (.skip rfl))) ?_
  refine seqG (W1 := W) (Q := insQ (.sl b o n (some cp)) i n m (.sl vb vo m vcap)) (.pu rfl rfl rfl (.pu rfl rfl rfl (.pu rfl rfl rfl (.nil ⟨_, rfl, rfl, rfl, rfl, rfl, rfl⟩)))) ?_
  intro a ⟨h0, h1, h2, h7, h8⟩
  have hlen : lenOf (.sl vb vo m vcap) = some m := rfl
  have hfc : firstC W.h s m (.sl vb vo m vcap) = some new := by simp only [firstC, hvb]; exact hnew
  by_cases hin : i = n
  · subst hin
    have hdrop : old.drop (i * s) = [] := List.drop_eq_nil_of_le (by omega)
    have htake : old.take (i * s) = old := List.take_of_length_le (by omega)
    refine seqR (seqG (W1 := W) (Q := fun a => insQ (.sl b o i (some cp)) i i m (.sl vb vo m vcap) a ∧ a 22 = .bool true) (.pu rfl rfl rfl (.pu rfl rfl rfl (.pu rfl rfl (ex_eqlT (p := i) (q := i) h1 h8 rfl) (.nil ⟨_, rfl, ⟨h0, h1, h2, h7, h8⟩, rfl⟩)))) ?_) hno
    clear h0 h1 h2 h7 h8 a
    intro a ⟨⟨h0, h1, h2, h7, h8⟩, h22⟩
    refine .cond true h22 ?_
    by_cases hroom : i + m ≤ cp
    · have hcm : (i + m) * s ≤ cp * s := Nat.mul_le_mul_right _ hroom
      have e2 : (i + m) * s = i * s + m * s := Nat.add_mul _ _ _
      obtain ⟨c3, hc3⟩ := lput_ex cs (o + i * s) new (by omega)
      obtain ⟨p1, p2, p3⟩ := lput_some hc3
      have happ : appendV W.h W.nx el s (a 0) (a 2) = some ⟨.sl b o (i + m) (some cp), [(b, .cells c3 el s false false)], W.nx⟩ := by
        rw [h0, h2]
        simp only [appendV, hlen, hfc, hokn, hb, cond_true, cond_false]
        have hq : lsub cs o (Nat.mul i s) = some old := hold
        have hq2 : lput cs (Nat.add o (Nat.mul i s)) new = some c3 := hc3
        have hq3 : Nat.ble (Nat.add i m) cp = true := Nat.ble_eq_true_of_le hroom
        simp only [hq, hq2, hq3, cond_true]
        rfl
      refine seqG (Q := fun a => a 6 = .sl b o (i + m) (some cp)) (W1 := ⟨upd W.h b (.cells c3 el s false false), W.nx⟩) (.pu rfl rfl rfl (.pu rfl rfl rfl (.ef rfl rfl happ (.pu rfl rfl rfl (.nil ⟨_, rfl, rfl⟩))))) ?_
      intro a h6
      refine .ret ⟨_, _, rfl, .inr ⟨hroom, h6, c3, rfl, ?_, p1⟩⟩
      rw [hdrop, htake, List.append_nil]
      rw [lsub_mk c3 o _ (by omega)]
      congr 1
      apply List.ext_getElem?
      intro j
      by_cases hj : j < (i + m) * s
      · rw [List.getElem?_take, if_pos hj, List.getElem?_drop, p3]
        by_cases h1 : j < i * s
        · rw [if_neg (by omega), List.getElem?_append_left (by omega), lsub_get hold j h1]
        · rw [if_pos (by omega), List.getElem?_append_right (by omega)]
          congr 1
          omega
      · rw [List.getElem?_take, if_neg hj, List.getElem?_eq_none (by simp; omega)]
    · have happ : appendV W.h W.nx el s (a 0) (a 2) = some ⟨.sl W.nx 0 (i + m) none, [(W.nx, .cells (lapp old new) el s true false)], W.nx + 1⟩ := by
        rw [h0, h2]
        simp only [appendV, hlen, hfc, hokn, hb, cond_true]
        have hq : lsub cs o (Nat.mul i s) = some old := hold
        have hq3 : Nat.ble (Nat.add i m) cp = false := ble_false (by show cp < i + m; omega)
        have hq4 : Nat.ble (Nat.add i m) 1073741824 = true := Nat.ble_eq_true_of_le hbig
        simp only [hq, hq3, hq4, cond_true, cond_false]
        rfl
      refine seqG (Q := fun a => a 6 = .sl W.nx 0 (i + m) none) (W1 := ⟨upd W.h W.nx (.cells (lapp old new) el s true false), W.nx + 1⟩) (.pu rfl rfl rfl (.pu rfl rfl rfl (.ef rfl rfl happ (.pu rfl rfl rfl (.nil ⟨_, rfl, rfl⟩))))) ?_
      intro a h6
      refine .ret ⟨_, _, rfl, .inl ⟨by omega, h6, ?_⟩⟩
      rw [hdrop, htake, List.append_nil, ← lapp_eq]
  · have hlt : i < n := by omega
    refine seqG (W1 := W) (Q := insQ (.sl b o n (some cp)) i n m (.sl vb vo m vcap)) (seqG (W1 := W) (Q := fun a => insQ (.sl b o n (some cp)) i n m (.sl vb vo m vcap) a ∧ a 22 = .bool false) (.pu rfl rfl rfl (.pu rfl rfl rfl (.pu rfl rfl (ex_eqlF (p := i) (q := n) h1 h8 hin) (.nil ⟨_, rfl, ⟨h0, h1, h2, h7, h8⟩, rfl⟩)))) (fun a ⟨h, h22⟩ => .cond false h22 (.skip ⟨_, rfl, h⟩))) ?_
    clear h0 h1 h2 h7 h8 a
    intro a ⟨h0, h1, h2, h7, h8⟩
    by_cases hroom : n + m ≤ cp
    · refine seqG (W1 := W) (Q := insQ (.sl b o n (some cp)) i n m (.sl vb vo m vcap)) (seqG (W1 := W) (Q := fun a => insQ (.sl b o n (some cp)) i n m (.sl vb vo m vcap) a ∧ a 31 = .bool false) (.pu rfl rfl rfl (.pu rfl rfl rfl (.pu rfl rfl (ex_add (p := n) (q := m) h8 h7 (by omega)) (.pu rfl rfl rfl (.pu (v := .int .i64 (.ofNat cp)) rfl rfl ?_ (.pu rfl rfl (ex_gtrF (p := n + m) (q := cp) rfl rfl hroom) (.nil ⟨_, rfl, ⟨h0, h1, h2, h7, h8⟩, rfl⟩))))))) (fun a ⟨h, h31⟩ => .cond false h31 (.skip ⟨_, rfl, h⟩))) ?_
      · show (match a 0 with | .nils => _ | .sl _ _ _ (some c) => some (Val.int .i64 (.ofNat c)) | _ => none) = _
        rw [h0]
      intro a ha
      exact insR_ev I p hvz hb hvb hne hs hn hcp hold hoko hnew hokn hm hlt hbig hroom ha
    · refine seqR (seqG (W1 := W) (Q := fun a => insQ (.sl b o n (some cp)) i n m (.sl vb vo m vcap) a ∧ a 31 = .bool true) (.pu rfl rfl rfl (.pu rfl rfl rfl (.pu rfl rfl (ex_add (p := n) (q := m) h8 h7 (by omega)) (.pu rfl rfl rfl (.pu (v := .int .i64 (.ofNat cp)) rfl rfl ?_ (.pu rfl rfl (ex_gtrT (p := n + m) (q := cp) rfl rfl (by omega)) (.nil ⟨_, rfl, ⟨h0, h1, h2, h7, h8⟩, rfl⟩))))))) (fun a ⟨h, h31⟩ => .cond true h31 ?_)) hno
      · show (match a 0 with | .nils => _ | .sl _ _ _ (some c) => some (Val.int .i64 (.ofNat c)) | _ => none) = _
        rw [h0]
      exact insB_ev I p hvz hb hvb hne hbx hvx hs hz hn hcp hold hoko hnew hokn hm hlt hbig (by omega) h

/-- .. at a nil slice -/
theorem ins_nil (I : Intr) (p : Nat → Option VF) {el s by0 cl : Nat} {z : List Val} {W : St} {vb vo m : Nat} {vcap : Option Nat} {vc new : List Val} {ve vz : Nat} {vop ro : Bool}
    (hvb : W.h vb = .cells vc ve vz vop ro) (hnew : lsub vc vo (m * s) = some new) (hokn : okAll new = true) (hm : 1 ≤ m) (hbig : m ≤ 1073741824) :
    Ev I p (insC el s by0 z cl) (enter [.nils, .int .i64 (.ofNat 0), .sl vb vo m vcap]) W (fun out => ∃ a', out = .ret a' ⟨upd W.h W.nx (.cells new el s true false), W.nx + 1⟩ ∧ a' 6 = .sl W.nx 0 m none) := by
  have hlen : lenOf (.sl vb vo m vcap) = some m := rfl
  have hfc : firstC W.h s m (.sl vb vo m vcap) = some new := by simp only [firstC, hvb]; exact hnew
  unfold insC
  refine seqE (.pu rfl rfl rfl (.nil rfl)) ?_
  refine seqE (.pu rfl rfl rfl (.pu rfl rfl rfl (.rd (v := .nils) rfl rfl rfl (.nil rfl)))) ?_
  refine seqE (.pu rfl rfl rfl (.pu rfl rfl rfl (.pu rfl rfl rfl (.nil rfl)))) ?_
  refine seqE (seqE (.pu rfl rfl rfl (.pu rfl rfl (ex_eqlF (p := m) (q := 0) rfl rfl (by omega)) (.nil rfl))) (.cond false rfl (.skip rfl))) ?_
  refine seqG (W1 := W) (Q := insQ .nils 0 0 m (.sl vb vo m vcap)) (.pu rfl rfl rfl (.pu rfl rfl rfl (.pu rfl rfl rfl (.nil ⟨_, rfl, rfl, rfl, rfl, rfl, rfl⟩)))) ?_
  intro a ⟨h0, h1, h2, h7, h8⟩
  refine seqR (seqG (W1 := W) (Q := fun a => insQ .nils 0 0 m (.sl vb vo m vcap) a ∧ a 22 = .bool true) (.pu rfl rfl rfl (.pu rfl rfl rfl (.pu rfl rfl (ex_eqlT (p := 0) (q := 0) h1 h8 rfl) (.nil ⟨_, rfl, ⟨h0, h1, h2, h7, h8⟩, rfl⟩)))) ?_) (fun a w ⟨a1, e, _⟩ => by cases e)
  clear h0 h1 h2 h7 h8 a
  intro a ⟨⟨h0, h1, h2, h7, h8⟩, h22⟩
  refine .cond true h22 ?_
  have happ : appendV W.h W.nx el s (a 0) (a 2) = some ⟨.sl W.nx 0 m none, [(W.nx, .cells new el s true false)], W.nx + 1⟩ := by
    rw [h0, h2]
    have q1 : Nat.beq m 0 = false := beq_false (by omega)
    have q2 : Nat.ble m 1073741824 = true := Nat.ble_eq_true_of_le hbig
    simp only [appendV, hlen, hfc, hokn, q1, q2, cond_true, cond_false]
  refine seqG (Q := fun a => a 6 = .sl W.nx 0 m none) (W1 := ⟨upd W.h W.nx (.cells new el s true false), W.nx + 1⟩) (.pu rfl rfl rfl (.pu rfl rfl rfl (.ef rfl rfl happ (.pu rfl rfl rfl (.nil ⟨_, rfl, rfl⟩))))) ?_
  intro a h6
  exact .ret ⟨_, rfl, h6⟩

end Go.Vx

/- slices.Insert, at elements of two cells or more: what the machine V takes it for, it does. Conditions: the function's text is the given one. -/
set_option linter.unusedVariables false
set_option linter.unusedSimpArgs false
namespace Go.Vx

theorem lsub_app {α : Type} {l m r : List α} {i n : Nat} (h : lsub l i n = some r) : lsub (l ++ m) i n = some r := by
  obtain ⟨h1, h2⟩ := lsub_some h
  rcases lsub_len h with h0 | h0
  · subst h0
    have : r = [] := List.length_eq_zero_iff.1 h2
    subst this
    unfold lsub
    rw [ltake_eq, llen_eq]
    simp
  · rw [lsub_mk _ _ _ (by simp; omega), h1]
    congr 1
    rw [List.drop_append_of_le_length (by omega), List.take_append_of_le_length (by simp; omega)]

section
variable {P : Program} {B0 : Nat} {β : Bm} {W : St} {w : World}

/-- cells that are not known are told as such -/
theorem Sim.refine (hr : Rel B0 β W w) {b : Nat} {L : Loc} (hL : β b = some L) {c : List Val} {e s : Nat} {op : Bool} (hb : W.h b = .cells c e s op false) :
    Sim B0 β W w β ⟨upd W.h b (.cells (c ++ List.replicate (L.ext - c.length) .undef) e s false false), W.nx⟩ w := by
  have key : ∀ b', (upd W.h b (.cells (c ++ List.replicate (L.ext - c.length) .undef) e s false false) b').live → (W.h b').live := fun b' h => by
    by_cases h1 : b' = b
    · subst h1; rw [hb]; trivial
    · rwa [upd_ne _ _ h1] at h
  have keyw : ∀ b', (upd W.h b (.cells (c ++ List.replicate (L.ext - c.length) .undef) e s false false) b').wr → (W.h b').wr := fun b' h => by
    by_cases h1 : b' = b
    · subst h1; rw [hb]; rfl
    · rwa [upd_ne _ _ h1] at h
  refine ⟨⟨hr.low, hr.fresh, fun b' L' h' => ?_, fun b1 b2 L1 L2 hne h1 h2 l1 l2 => hr.dis b1 b2 L1 L2 hne h1 h2 (key _ l1) (key _ l2)⟩, Bm.le_refl β, Nat.le_refl _, fun b' _ hn => ⟨hn, ?_⟩, Nat.le_refl _, fun b' L' h' hw => .inr ⟨b', L', h', keyw _ hw, rfl, Nat.le_refl _, Nat.le_refl _⟩, fun R cs e fz h => ⟨cs, h, rfl, fun _ _ => rfl⟩, fun _ _ h _ => h, rfl, rfl, rfl⟩
  · show BR _ _ _ _ (upd W.h b _ b')
    by_cases h1 : b' = b
    · subst h1
      rw [hL] at h'
      cases h'
      rw [upd_self]
      have hbr := hr.blk b' L hL
      rw [hb] at hbr
      obtain ⟨cs, fz, g1, g2, g3, g4, g5, g6, g7⟩ := hbr
      refine ⟨cs, fz, g1, g2, g3, by simp; omega, fun _ => by simp; omega, fun i v hi => ?_, g7⟩
      by_cases hlt : i < c.length
      · rw [List.getElem?_append_left hlt] at hi
        exact g6 i v hi
      · rw [List.getElem?_append_right (by omega), List.getElem?_replicate] at hi
        split at hi
        · cases hi
          refine ⟨cs[L.base + i]'(by omega), Array.getElem?_eq_getElem (by omega), .undef _⟩
        · cases hi
    · rw [upd_ne _ _ h1]
      exact hr.blk b' L' h'
  · have : b' ≠ b := fun e => by subst e; rw [hL] at hn; cases hn
    exact upd_ne _ _ this

theorem within_refl (w : World) (R lo hi : Nat) : Within w w R lo hi := ⟨rfl, fun _ _ => rfl, fun cs e fz h => ⟨cs, h, rfl, fun _ _ => rfl⟩, rfl, rfl, rfl⟩

theorem upd_comm (h : Nat → Blk) {r q : Nat} (x y : Blk) (hne : r ≠ q) : upd (upd h r x) q y = upd (upd h q y) r x := by
  funext j
  by_cases e : j = r
  · subst e; rw [upd_self, upd_ne _ _ hne, upd_self]
  · by_cases e2 : j = q
    · subst e2; rw [upd_self, upd_ne _ _ e, upd_self]
    · rw [upd_ne _ _ e2, upd_ne _ _ e, upd_ne _ _ e, upd_ne _ _ e2]

theorem ins_ok {p : Nat → Option VF} (hp : ∀ f vf, p f = some vf → fnC P f = some vf) (hm : P.follows .mixedOrders = true) {f el s by0 cl : Nat} {z : List Val} {vf : VF} (hpf : p f = some vf) (hbody : vf.body = insC el s by0 z cl) (hres : vf.res = [(6, none)]) (hz : z.length = s) (hs : 2 ≤ s)
    (hrel : Rel B0 β W w) {xs : List Val} {args : Array Value} (hx : VRs β xs args.toList) {ef : Ef} (h : insV s el xs W.h W.nx = some ef) :
    Calls P f args w fun q w' => ∃ β' u, q = .returned u ∧ VR β' ef.v u ∧ Sim B0 β W w β' (W.eff ef) w' := by
  have hI : IOk P B0 (fun _ _ _ _ => False) := fun _ _ _ _ h => h.elim
  have hrv : ∀ (h : Nat → Blk) (a : Tm), resultsV vf h a = some (a 6) := fun h a => by
    unfold resultsV
    rw [hres]
    rfl
  unfold insV at h
  split at h
  case h_2 => cases h
  rename_i s0 i vb vo vn vcap
  split at h
  case h_2 => cases h
  rename_i vc ve vz vop vro hvb
  rw [lsubR_eq] at h
  split at h
  case h_2 => cases h
  rename_i new hnew
  rw [okAllR_eq] at h
  cases hc : (Nat.ble 1 vn && okAll new && !vro && !Nat.beq vz 1) with
  | false => rw [hc] at h; cases h
  | true =>
    rw [hc] at h
    simp only [cond_true] at h
    simp only [Bool.and_eq_true, Bool.not_eq_true'] at hc
    obtain ⟨⟨⟨c1, hokn⟩, c3⟩, c4⟩ := hc
    subst c3
    have hvn := Nat.le_of_ble_eq_true c1
    have hvz : vz ≠ 1 := fun e => by subst e; simp at c4
    cases args with | mk la =>
    cases hx with | cons _ u1 _ l1 h1 hx =>
    cases hx with | cons _ u2 _ l2 h2 hx =>
    cases hx with | cons _ u3 _ l3 h3 hx =>
    cases hx
    split at h
    case h_3 => cases h
    · cases hc : (Nat.beq i 0 && Nat.ble vn 1073741824) with
      | false => rw [hc] at h; cases h
      | true =>
        rw [hc] at h
        simp only [cond_true, Option.some.injEq] at h
        subst h
        simp only [Bool.and_eq_true] at hc
        obtain ⟨d1, d2⟩ := hc
        have := Nat.eq_of_beq_eq_true d1
        subst this
        have hev := ins_nil (fun _ _ _ _ => False) p (el := el) (s := s) (by0 := by0) (cl := cl) (z := z) (W := W) (vcap := vcap) hvb hnew hokn hvn (Nat.le_of_ble_eq_true d2)
        rw [← hbody] at hev
        refine (ev_calls hp hm hI hpf hev (fun a _ => a 6) (fun a' w' _ => hrv _ _) (fun i a' w' ⟨a1, e, _⟩ => by cases e) (VRs.cons _ _ _ _ h1 (.cons _ _ _ _ h2 (.cons _ _ _ _ h3 .nil))) hrel).mono ?_
        rintro q w' ⟨a', W', β', u, rfl, hk, hu, hsim⟩
        rcases hk with ⟨a1, e, h6⟩ | ⟨a1, e, h6⟩
        · cases e
        · cases e
          rw [h6] at hu
          exact ⟨β', u, rfl, hu, hsim⟩
    · rename_i b o n cap
      cases hne : Nat.beq b vb with
      | true => rw [hne] at h; cases h
      | false =>
        rw [hne] at h
        simp only [cond_false] at h
        have hne' : b ≠ vb := fun e => by subst e; simp at hne
        split at h
        case h_2 => cases h
        rename_i c e z1 op ro hb
        cases hc : (Nat.beq z1 s && Nat.beq e el && !ro && Nat.ble i n && Nat.ble (Nat.add n vn) 1073741824 && capFit o n s c cap) with
        | false => rw [hc] at h; cases h
        | true =>
          rw [hc] at h
          simp only [cond_true, lsubR_eq, okAllR_eq, lappR_eq, ltakeR_eq, ldropR_eq, ltake_eq, ldrop_eq, lapp_eq] at h
          simp only [Bool.and_eq_true, Bool.not_eq_true'] at hc
          obtain ⟨⟨⟨⟨⟨d1, d2⟩, d3⟩, d4⟩, d5⟩, d6⟩ := hc
          subst d3
          have := Nat.eq_of_beq_eq_true d1
          subst this
          have := Nat.eq_of_beq_eq_true d2
          subst this
          have hi := Nat.le_of_ble_eq_true d4
          have hbig : n + vn ≤ 1073741824 := Nat.le_of_ble_eq_true d5
          split at h
          case h_2 => cases h
          rename_i old hold
          cases hoko : okAll old with
          | false => rw [hoko] at h; cases h
          | true =>
            rw [hoko] at h
            simp only [cond_true, Option.some.injEq] at h
            subst h
            have hold' : lsub c o (n * z1) = some old := hold
            obtain ⟨L, cp, hL, rfl, hcap⟩ := VR.sl_inv h1 rfl
            have hbr := hrel.blk b L hL
            rw [hb] at hbr
            obtain ⟨cs0, fz0, g1, g2, g3, g4, g5, g6, g7⟩ := hbr
            have hfit : n ≤ cp ∧ o + cp * z1 ≤ L.ext := by
              rcases hcap with rfl | ⟨rfl, he⟩
              · simp only [capFit, Bool.and_eq_true, llenR_eq, llen_eq] at d6
                have h1 := Nat.le_of_ble_eq_true d6.1
                have h2 : o + cp * z1 ≤ c.length := Nat.le_of_ble_eq_true d6.2
                omega
              · rw [g3] at he
                refine ⟨?_, by omega⟩
                rcases lsub_len hold' with h0 | h0
                · rcases Nat.mul_eq_zero.1 h0 with h0 | h0 <;> omega
                · have : n * z1 ≤ cp * z1 := by omega
                  exact Nat.le_of_mul_le_mul_right this (by omega)
            have hbx : b ≠ W.nx := fun e => by subst e; rw [hrel.fresh _ (Nat.le_refl _)] at hL; cases hL
            have hvx : vb ≠ W.nx := fun e => by
              subst e
              obtain ⟨L3, _, hL3, _⟩ := VR.sl_inv h3 rfl
              rw [hrel.fresh _ (Nat.le_refl _)] at hL3; cases hL3
            have hsim0 := Sim.refine hrel hL hb
            generalize hcs : c ++ List.replicate (L.ext - c.length) .undef = cs at hsim0
            have hcl : cs.length = L.ext := by rw [← hcs]; simp; omega
            have hold1 : lsub cs o (n * z1) = some old := by rw [← hcs]; exact lsub_app hold'
            have hev := ins_ev (fun _ _ _ _ => False) p (el := e) (s := z1) (by0 := by0) (cl := cl) (z := z) (W := ⟨upd W.h b (.cells cs e z1 false false), W.nx⟩) (vcap := vcap) (cp := cp) (i := i) hvz (upd_self _ _ _) ((upd_ne _ _ (fun e => hne' e.symm)).trans hvb) hne' hbx hvx hs hz hfit.1 (by omega) hold1 hoko hnew hokn hvn hi hbig
            rw [← hbody] at hev
            refine (ev_calls hp hm hI hpf hev (fun a _ => a 6) (fun a' w' _ => hrv _ _) (fun i a' w' ⟨a1, W1, e, _⟩ => by cases e) (VRs.cons _ _ _ _ (.slx b o n cp L hL) (.cons _ _ _ _ h2 (.cons _ _ _ _ h3 .nil))) hsim0.rel).mono ?_
            rintro q w' ⟨a', W', β', u, rfl, hk, hu, hsim⟩
            rcases hk with ⟨a1, W1, e1, _⟩ | ⟨a1, W1, e1, hk⟩
            · cases e1
            · cases e1
              have hL' := hsim.le b L hL
              rcases hk with ⟨k1, k2, rfl⟩ | ⟨k1, k2, c3, rfl, k3, k4⟩
              · rw [k2] at hu
                have hkill := Sim.kill hsim.rel hL'
                refine ⟨β', u, rfl, hu, ?_⟩
                have := (hsim0.trans hsim).trans hkill
                have e2 : upd (upd (upd W.h b (.cells cs e z1 false false)) W.nx (.cells (old.take (i * z1) ++ (new ++ old.drop (i * z1))) e z1 true false)) b .dead = upd (upd W.h b .dead) W.nx (.cells (old.take (i * z1) ++ (new ++ old.drop (i * z1))) e z1 true false) := by
                  rw [upd_comm _ _ _ (fun e => hbx e.symm), upd_upd]
                show Sim B0 β W w β' ⟨upd (upd W.h b .dead) W.nx (.cells (old.take (i * z1) ++ (new ++ old.drop (i * z1))) e z1 true false), W.nx + 1⟩ w'
                rw [← e2]
                exact this
              · rw [k2] at hu
                obtain ⟨L4, cp4, hL4, rfl, hcp4⟩ := VR.sl_inv hu rfl
                rw [hL'] at hL4
                cases hL4
                rcases hcp4 with e3 | ⟨e3, _⟩
                case inr => cases e3
                cases e3
                have hbr' := hsim.rel.blk b L hL'
                have hnx' := hsim.rel.fresh W.nx (Nat.le_refl _)
                change BR B0 β' L w'.heap (upd (upd W.h b (.cells cs e z1 false false)) b (.cells c3 e z1 false false) b) at hbr'
                rw [upd_self] at hbr'
                obtain ⟨cs4, fz4, f1, f2, f3, f4, f5, f6, f7⟩ := hbr'
                have hle := Bm.add_le (⟨L.r, L.base + o, cp * z1, z1⟩ : Loc) hnx'
                have htl := (lsub_some k3).2
                have hmul : (n + vn) * z1 ≤ cp * z1 := Nat.mul_le_mul_right _ k1
                have hturn := Sim.turn (L1 := ⟨L.r, L.base + o, cp * z1, z1⟩) (w' := w') hsim.rel hL' (by show (upd _ b _ b).wr; rw [upd_self]; rfl) (.cells (old.take (i * z1) ++ (new ++ old.drop (i * z1))) e z1 true false) (within_refl _ _ _ _) (.inl ⟨_, _, _, f1⟩) rfl (by show L.base ≤ L.base + o; omega) (by show L.base + o + cp * z1 ≤ L.base + L.ext; omega)
                  ⟨cs4, fz4, f1, by show L.base + o + cp * z1 ≤ _; omega, rfl, by show _ ≤ cp * z1; omega, fun h => (by cases h), fun j v hj => (by
                    have hjl : j < (n + vn) * z1 := by
                      rcases Nat.lt_or_ge j (old.take (i * z1) ++ (new ++ old.drop (i * z1))).length with h' | h'
                      · omega
                      · rw [List.getElem?_eq_none h'] at hj; cases hj
                    rw [lsub_get k3 j hjl] at hj
                    obtain ⟨u, hu, hv⟩ := f6 _ v hj
                    exact ⟨u, by show cs4[L.base + o + j]? = _; rw [Nat.add_assoc]; exact hu, hv.mono hle⟩), fun _ => (by
                    obtain ⟨j1, j2, j3⟩ := f7 rfl
                    refine ⟨j1, ?_, j3.1, fun h => absurd h (by omega)⟩
                    show L.base + o + cp * z1 ≤ fz4.1 ∨ fz4.2 ≤ L.base + o
                    omega)⟩
                refine ⟨β'.add W.nx ⟨L.r, L.base + o, cp * z1, z1⟩, _, rfl, .slo W.nx 0 (n + vn) cp ⟨L.r, L.base + o, cp * z1, z1⟩ (Bm.add_self _ _ _) (by show 0 + cp * z1 = cp * z1; omega), ?_⟩
                have := (hsim0.trans hsim).trans hturn
                have e2 : upd (upd (upd (upd W.h b (.cells cs e z1 false false)) b (.cells c3 e z1 false false)) b .dead) W.nx (.cells (old.take (i * z1) ++ (new ++ old.drop (i * z1))) e z1 true false) = upd (upd W.h b .dead) W.nx (.cells (old.take (i * z1) ++ (new ++ old.drop (i * z1))) e z1 true false) := by
                  rw [upd_upd, upd_upd]
                show Sim B0 β W w (β'.add W.nx ⟨L.r, L.base + o, cp * z1, z1⟩) ⟨upd (upd W.h b .dead) W.nx (.cells (old.take (i * z1) ++ (new ++ old.drop (i * z1))) e z1 true false), W.nx + 1⟩ w'
                rw [← e2]
                exact this

end
end Go.Vx

/- Calls that only add to memory; a remainder made non-negative: known beside their text. Conditions: the functions' compiled form is the given one. -/
set_option linter.unusedVariables false
namespace Go.Vx
section
variable {P : Program} {ik : Nat → Option (List Val → (Nat → Blk) → Nat → Option Ef)} {p : Nat → Option VF}

/-- a call without arguments that was run alone, and came to a bool: it changes nothing that was there -/
def closedI (f : Nat) (b : Bool) : Intr := fun g xs W K => g = f ∧ xs = [] ∧ K (.bool b) W

theorem closed_ok (hp : ∀ f vf, p f = some vf → fnC P f = some vf) (hm : P.follows .mixedOrders = true) (hI : ∀ B0, IOk P B0 (IK ik)) {n f nx' : Nat} {h' : HH} {b : Bool} (e : runK ik p n f [] H0 0 = .val (.bool b) h' nx') (hen : Enterable P f) (B0 : Nat) : IOk P B0 (closedI f b) := by
  rintro g xs W K ⟨rfl, rfl, hk⟩
  refine ⟨hen, fun β w args hx hrel => ?_⟩
  cases args with | mk la =>
  cases hx
  refine (run_calls0 hp hm hI e (args := #[]) .nil).mono ?_
  rintro q w' ⟨u, β', rfl, hu, hs⟩
  cases hu
  exact ⟨_, _, β, _, rfl, hk, .bool b, Sim.grown hrel (fun R o h => Sim.old hs h) hs.size hs.tape hs.os hs.output⟩

/-- within: a number from 0 to k - 1 -/
def withinI (f : Nat) : Intr := fun g xs W K => g = f ∧ ∃ x k, xs = [.int .i64 x, .int .i64 (.ofNat k)] ∧ 0 < k ∧ k < 1000 ∧ ∀ r, r < k → K (.int .i64 (.ofNat r)) W

theorem within_ok (hp : ∀ f vf, p f = some vf → fnC P f = some vf) (hm : P.follows .mixedOrders = true) {f : Nat} {vf : VF} (hpf : p f = some vf) (hb : vf.body = wiC) (hres : vf.res = [(4, none)]) (B0 : Nat) : IOk P B0 (withinI f) := by
  rintro g xs W K ⟨rfl, x, k, rfl, h0, h1, hk⟩
  refine ⟨enterable_of (hp _ _ hpf), fun β w args hx hrel => ?_⟩
  have hI : IOk P B0 (fun _ _ _ _ => False) := fun _ _ _ _ h => h.elim
  have hrv : ∀ (h : Nat → Blk) (a : Tm), resultsV vf h a = some (a 4) := fun h a => by
    unfold resultsV
    rw [hres]
    rfl
  have hev := within_ev (fun _ _ _ _ => False) p x k h0 h1 W
  rw [← hb] at hev
  refine (ev_calls hp hm hI hpf hev (fun a _ => a 4) (fun a' w' _ => hrv _ _) (fun i a' w' ⟨a1, r, e, _⟩ => by cases e) hx hrel).mono ?_
  rintro q w' ⟨a', W', β', u, rfl, hk', hu, hs⟩
  rcases hk' with ⟨a1, r, e, hr, h4⟩ | ⟨a1, r, e, hr, h4⟩
  · cases e
  · cases e
    rw [h4] at hu
    exact ⟨_, _, β', u, rfl, hk r hr, hu, hs⟩

/-- slices.Insert and strings.Join, by their numbers -/
noncomputable def stdK (join : Nat) (ins : List (Nat × Nat × Nat)) (f : Nat) : Option (List Val → (Nat → Blk) → Nat → Option Ef) :=
  bif Nat.beq f join then some joinV else List.rec (motive := fun _ => Option (List Val → (Nat → Blk) → Nat → Option Ef)) none (fun q _ ih => bif Nat.beq f q.1 then some (insV q.2.1 q.2.2) else ih) ins

/-- the text of slices.Insert at a type -/
def InsText (p : Nat → Option VF) (q : Nat × Nat × Nat) : Prop := ∃ by0 z cl vf, p q.1 = some vf ∧ vf.body = insC q.2.2 q.2.1 by0 z cl ∧ vf.res = [(6, none)] ∧ z.length = q.2.1 ∧ 2 ≤ q.2.1

theorem std_ok (hp : ∀ f vf, p f = some vf → fnC P f = some vf) (hm : P.follows .mixedOrders = true) {join : Nat} (J : JoinSpec P join) : ∀ ins : List (Nat × Nat × Nat), (∀ q ∈ ins, InsText p q) → ∀ B0, IOk P B0 (IK (stdK join ins))
  | ins, hins, B0 => by
    rintro f xs W K ⟨g, e, h1, h2, hk⟩
    unfold stdK at h1
    cases hj : Nat.beq f join with
    | true =>
      rw [hj] at h1
      simp only [cond_true, Option.some.injEq] at h1
      subst h1
      have := Nat.eq_of_beq_eq_true hj
      subst this
      exact ⟨J.ent, fun β w args hx hrel => (join_ok J hrel hx h2).mono fun q w' ⟨β', u, e1, e2, e3⟩ => ⟨_, _, β', u, e1, hk, e2, e3⟩⟩
    | false =>
      rw [hj] at h1
      simp only [cond_false] at h1
      obtain ⟨q, hq, rfl, rfl⟩ : ∃ q ∈ ins, f = q.1 ∧ g = insV q.2.1 q.2.2 := by
        clear hins
        induction ins with
        | nil => cases h1
        | cons q l ih =>
          cases hb : Nat.beq f q.1 with
          | true =>
            have h1' : (bif Nat.beq f q.1 then some (insV q.2.1 q.2.2) else List.rec (motive := fun _ => Option (List Val → (Nat → Blk) → Nat → Option Ef)) none (fun q _ ih => bif Nat.beq f q.1 then some (insV q.2.1 q.2.2) else ih) l) = some g := h1
            rw [hb] at h1'
            simp only [cond_true, Option.some.injEq] at h1'
            exact ⟨q, List.mem_cons_self, Nat.eq_of_beq_eq_true hb, h1'.symm⟩
          | false =>
            have h1' : (bif Nat.beq f q.1 then some (insV q.2.1 q.2.2) else List.rec (motive := fun _ => Option (List Val → (Nat → Blk) → Nat → Option Ef)) none (fun q _ ih => bif Nat.beq f q.1 then some (insV q.2.1 q.2.2) else ih) l) = some g := h1
            rw [hb] at h1'
            obtain ⟨q', g1, g2⟩ := ih h1'
            exact ⟨q', List.mem_cons_of_mem _ g1, g2⟩
      obtain ⟨by0, z, cl, vf, t1, t2, t3, t4, t5⟩ := hins q hq
      exact ⟨enterable_of (hp _ _ t1), fun β w args hx hrel => (ins_ok hp hm t1 t2 t3 t4 t5 hrel hx h2).mono fun q w' ⟨β', u, e1, e2, e3⟩ => ⟨_, _, β', u, e1, hk, e2, e3⟩⟩

end
end Go.Vx

/- A table of functions by numbers, and what is to be shown of each. What a law leaves behind it. Conditions: none. -/
set_option linter.unusedVariables false
namespace Go.Vx

def All16 {α : Type} (Q : Nat → α → Prop) (k : Nat) (x : L16 α) : Prop := Q (16 * k + 0) x.a0 ∧ Q (16 * k + 1) x.a1 ∧ Q (16 * k + 2) x.a2 ∧ Q (16 * k + 3) x.a3 ∧ Q (16 * k + 4) x.a4 ∧ Q (16 * k + 5) x.a5 ∧ Q (16 * k + 6) x.a6 ∧ Q (16 * k + 7) x.a7 ∧ Q (16 * k + 8) x.a8 ∧ Q (16 * k + 9) x.a9 ∧ Q (16 * k + 10) x.a10 ∧ Q (16 * k + 11) x.a11 ∧ Q (16 * k + 12) x.a12 ∧ Q (16 * k + 13) x.a13 ∧ Q (16 * k + 14) x.a14 ∧ Q (16 * k + 15) x.a15
theorem All16.get {α : Type} {Q : Nat → α → Prop} {k : Nat} {x : L16 α} (h : All16 Q k x) (z : α) : ∀ i, i < 16 → Q (16 * k + i) (get1 z x i)
  | 0, _ => h.1
  | 1, _ => h.2.1
  | 2, _ => h.2.2.1
  | 3, _ => h.2.2.2.1
  | 4, _ => h.2.2.2.2.1
  | 5, _ => h.2.2.2.2.2.1
  | 6, _ => h.2.2.2.2.2.2.1
  | 7, _ => h.2.2.2.2.2.2.2.1
  | 8, _ => h.2.2.2.2.2.2.2.2.1
  | 9, _ => h.2.2.2.2.2.2.2.2.2.1
  | 10, _ => h.2.2.2.2.2.2.2.2.2.2.1
  | 11, _ => h.2.2.2.2.2.2.2.2.2.2.2.1
  | 12, _ => h.2.2.2.2.2.2.2.2.2.2.2.2.1
  | 13, _ => h.2.2.2.2.2.2.2.2.2.2.2.2.2.1
  | 14, _ => h.2.2.2.2.2.2.2.2.2.2.2.2.2.2.1
  | 15, _ => h.2.2.2.2.2.2.2.2.2.2.2.2.2.2.2
  | n + 16, hi => by omega
def All256 {α : Type} (Q : Nat → α → Prop) (x : L16 (L16 α)) : Prop := All16 (fun j y => All16 Q j y) 0 x
theorem All256.get {α : Type} {Q : Nat → α → Prop} {x : L16 (L16 α)} (h : All256 Q x) (z : α) (i : Nat) (hi : i < 256) : Q i (get2 z x i) := by
  have h1 := All16.get h (L16.all z) (i / 16) (by omega)
  have h2 := All16.get h1 z (i % 16) (by omega)
  have e : 16 * (16 * 0 + i / 16) + i % 16 = i := by omega
  rw [e] at h2
  exact h2
theorem get2_out {α : Type} (z : α) (x : L16 (L16 α)) {i : Nat} (hi : 256 ≤ i) : get2 z x i = z := by
  unfold get2
  have : dgOf (Nat.div i 16) = .out := dgOf_ge (by show 16 ≤ i / 16; omega)
  rw [this, sel_out]
  unfold get1
  exact sel_all z _

noncomputable def tabK (g0 g1 : L16 (L16 (Option VF))) (f : Nat) : Option VF := bif Nat.ble f 255 then get2 none g0 f else get2 none g1 (Nat.sub f 256)

def Tab (P : Program) (f : Nat) (o : Option VF) : Prop := ∀ vf, o = some vf → fnC P f = some vf
theorem Tab.no (P : Program) (f : Nat) : Tab P f none := fun _ h => by cases h
theorem Tab.yes {P : Program} {f : Nat} {v : VF} (h : fnC P f = some v) : Tab P f (some v) := fun _ e => by cases e; exact h

theorem tab_hp {P : Program} {g0 g1 : L16 (L16 (Option VF))} (h0 : All256 (Tab P) g0) (h1 : All256 (fun i => Tab P (i + 256)) g1) : ∀ f vf, tabK g0 g1 f = some vf → fnC P f = some vf := by
  intro f vf h
  unfold tabK at h
  cases hb : Nat.ble f 255 with
  | true =>
    rw [hb] at h
    have := Nat.le_of_ble_eq_true hb
    exact h0.get none f (by omega) vf h
  | false =>
    rw [hb] at h
    have h255 : ¬ f ≤ 255 := fun h' => by rw [Nat.ble_eq_true_of_le h'] at hb; cases hb
    simp only [cond_false] at h
    by_cases hf : f < 512
    · have h2 := h1.get none (Nat.sub f 256) (by show f - 256 < 256; omega) vf h
      have e : Nat.sub f 256 + 256 = f := by show f - 256 + 256 = f; omega
      rw [e] at h2
      exact h2
    · rw [get2_out none g1 (by show 256 ≤ f - 256; omega)] at h
      cases h

open Go.ChangeShapes Go.WideShapes Go.ChangeAt Go.RowKit in
/-- what a law whose arguments hold no memory leaves behind it -/
theorem post_plain {H : Type} {enc : TypeId × Value → H} {P : Program} {f : Func} {s : ChangeSpec} {apart fresh handsOn again : Bool} {W W' : World} {args : Array Value} {v : Value} {ds gs : List (DataW H)}
    (hW : DataW.Whole enc P f.params.toList s.vars apart W args.toList ds gs [])
    (hres : ∀ (b : Nat) (sp : Nat → Bool) (hd : Bool), DataW.TrodAll enc P W' b sp hd f.resultTypes.toList (v.resultList f.resultTypes.size) (s.fn H (ds ++ gs)).results [])
    (hargs : ∀ sp : Nat → Bool, DataW.TrodAll enc P W' 0 sp true f.params.toList args.toList (s.fn H (ds ++ gs)).args [])
    (hvars : ∀ sp : Nat → Bool, DataW.TrodVars enc P W' sp s.vars (s.fn H (ds ++ gs)).vars [])
    (hk : W.keptBut W' (fun _ => False))
    (hok : ∀ (j : Nat) (t : TypeId) (r : Value), f.resultTypes[j]? = some t → (v.resultList f.resultTypes.size)[j]? = some r → Value.okWide P W' .any 0 t r) :
    s.post enc P f apart fresh handsOn again W args v W' := by
  refine ⟨ds, gs, [], [], [], [], hW, hres _ _ _, hargs _, hvars _, World.keptBut_mono (fun p hp => hp.elim) hk, fun _ => ?_⟩
  obtain ⟨_, _, _, _, _, hz, hn⟩ := hW
  refine ⟨hok, _, _, ([] ++ []) ++ [], ⟨[] ++ [], [], trodAll_append (hargs _) (hres _ _ _), hvars _, rfl, ?_, ?_⟩, ?_⟩
  · intro b off hp
    simp at hp
  · intro ha
    exact hn ha
  · intro p hp _
    simp at hp

end Go.Vx

/- What is left of a law behind its head, run from a tree; the tie of a tree to slots. Conditions: none. -/
set_option linter.unusedVariables false
namespace Go.Vx

noncomputable def isT : Val → Bool := fun v => Val.rec (motive_1 := fun _ => Bool) (motive_2 := fun _ => Bool) false (fun _ _ => false) (fun b => b) (fun _ => false) false (fun _ _ => false) false (fun _ _ _ _ => false) false (fun _ => false) false (fun _ _ _ _ _ => false) false (fun _ _ _ => false) (fun _ _ => false) (fun _ _ => false) false (fun _ _ _ _ => false) v
theorem isT_true {v : Val} (h : isT v = true) : v = .bool true := by
  cases v with
  | bool b =>
    have : b = true := h
    rw [this]
  | _ => cases h

/-- does it end with 'true' in a slot? -/
noncomputable def okR (s : Nat) (z : Rz) : Bool := Rz.rec (motive := fun _ => Bool) false (fun t _ _ => isT (get2 .undef t s)) (fun _ _ _ _ => false) (fun t _ _ => isT (get2 .undef t s)) z

/-- the law answers 'true' -/
def SaidT (s : Nat) (out : Out) : Prop := ∃ a' W', (out = .ret a' W' ∨ out = .norm a' W') ∧ a' s = .bool true

theorem okR_good {s : Nat} {z : Rz} (h : okR s z = true) : Good z (SaidT s) := by
  cases z with
  | fail => cases h
  | norm t h' nx => exact ⟨_, _, .inr rfl, isT_true h⟩
  | exit i t h' nx => cases h
  | ret t h' nx => exact ⟨_, _, .inl rfl, isT_true h⟩

theorem rest_ev {ik : Nat → Option (List Val → (Nat → Blk) → Nat → Option Ef)} {p : Nat → Option VF} {I : Intr} (hI : ∀ f xs W K, IK ik f xs W K → I f xs W K) {s n nx : Nat} {c : C} {t : TT} {h : HH} (e : okR s (codeK (runK ik p n) c t h nx) = true) : Ev I p c (gT t) ⟨gH h, nx⟩ (SaidT s) :=
  Ev.mono hI (code_snd (run_snd n) c t h nx _ (okR_good e))

theorem gT_T0 (i : Nat) : gT T0 i = .undef := get2_all Val.undef i

section
variable {P : Program} {p : Nat → Option VF}

/-- a law that answers 'true' by the rules answers 'true', and changes nothing that was there -/
theorem said_calls (hp : ∀ f vf, p f = some vf → fnC P f = some vf) (hm : P.follows .mixedOrders = true) {I : Intr} (hI : ∀ B0, IOk P B0 I) {f s : Nat} {vf : VF} (hpf : p f = some vf) (hres : vf.res = [(s, none)]) {xs : List Val} (hev : Ev I p vf.body (enter xs) ⟨gH H0, 0⟩ (SaidT s))
    {w : World} {args : Array Value} (hx : VRs β0 xs args.toList) : Calls P f args w fun e w' => e = .returned (.bool true) ∧ w.keptBut w' (fun _ => False) := by
  have hrv : ∀ (h : Nat → Blk) (a : Tm), resultsV vf h a = some (a s) := fun h a => by
    unfold resultsV
    rw [hres]
    rfl
  refine (ev_calls hp hm (hI w.heap.size) hpf hev (fun a _ => a s) (fun a' w' _ => hrv _ _) ?_ hx (start_rel w _)).mono ?_
  · rintro i a' w' ⟨a1, W1, (e | e), _⟩ <;> cases e
  · rintro e w' ⟨a', W', β', u, rfl, hk, hu, hs⟩
    have h4 : a' s = .bool true := by
      rcases hk with ⟨a1, W1, (e | e), h⟩ | ⟨a1, W1, (e | e), h⟩ <;> cases e <;> exact h
    rw [h4] at hu
    cases hu
    exact ⟨rfl, hs.kept _⟩
end
end Go.Vx

/- A run that is cut into pieces: chains of statements, a call in the midst of a statement, a loop over a map of several entries. Conditions: none. -/
set_option linter.unusedVariables false
namespace Go.Vx

noncomputable def isNorm (z : Rz) : Bool := Rz.rec (motive := fun _ => Bool) false (fun _ _ _ => true) (fun _ _ _ _ => false) (fun _ _ _ => false) z
noncomputable def isRet (z : Rz) : Bool := Rz.rec (motive := fun _ => Bool) false (fun _ _ _ => false) (fun _ _ _ _ => false) (fun _ _ _ => true) z
noncomputable def isExit (i : Nat) (z : Rz) : Bool := Rz.rec (motive := fun _ => Bool) false (fun _ _ _ => false) (fun j _ _ _ => Nat.beq j i) (fun _ _ _ => false) z
noncomputable def tOf (z : Rz) : TT := Rz.rec (motive := fun _ => TT) T0 (fun t _ _ => t) (fun _ t _ _ => t) (fun t _ _ => t) z
noncomputable def hOf (z : Rz) : HH := Rz.rec (motive := fun _ => HH) H0 (fun _ h _ => h) (fun _ _ h _ => h) (fun _ h _ => h) z
noncomputable def nOf (z : Rz) : Nat := Rz.rec (motive := fun _ => Nat) 0 (fun _ _ n => n) (fun _ _ _ n => n) (fun _ _ n => n) z
theorem norm_eq {z : Rz} (h : isNorm z = true) : z = .norm (tOf z) (hOf z) (nOf z) := by
  cases z <;> first | rfl | cases h
theorem ret_eq {z : Rz} (h : isRet z = true) : z = .ret (tOf z) (hOf z) (nOf z) := by
  cases z <;> first | rfl | cases h
theorem exit_eq {i : Nat} {z : Rz} (h : isExit i z = true) : z = .exit i (tOf z) (hOf z) (nOf z) := by
  cases z with
  | exit j t h' n => have := Nat.eq_of_beq_eq_true (show Nat.beq j i = true from h); subst this; rfl
  | _ => cases h

def takeC : Nat → C → List C
  | n + 1, .seq a b => a :: takeC n b
  | _, _ => []
def dropC : Nat → C → C
  | n + 1, .seq _ b => dropC n b
  | _, c => c
noncomputable def runChain (rc : RcT) (l : List C) : KT := List.rec (motive := fun _ => KT) .norm (fun c _ ih t h nx => Rz.rec (motive := fun _ => Rz) .fail ih (fun _ _ _ _ => .fail) (fun _ _ _ => .fail) (codeK rc c t h nx)) l

section
variable {I : Intr} {p : Nat → Option VF} {rc : RcT}

theorem seq_norm (hrc : RcOk I p rc) {x y : C} {t : TT} {h : HH} {nx : Nat} {K : Out → Prop} {t1 : TT} {h1 : HH} {n1 : Nat} (e : codeK rc x t h nx = .norm t1 h1 n1) (h2 : Ev I p y (gT t1) ⟨gH h1, n1⟩ K) : Ev I p (.seq x y) (gT t) ⟨gH h, nx⟩ K :=
  seqE (code_snd hrc x t h nx (fun o => o = .norm (gT t1) ⟨gH h1, n1⟩) (by rw [e]; rfl)) h2

theorem chain_ev (hrc : RcOk I p rc) : ∀ (n : Nat) (c : C) (t : TT) (h : HH) (nx : Nat) {K : Out → Prop} {t1 : TT} {h1 : HH} {n1 : Nat}, runChain rc (takeC n c) t h nx = .norm t1 h1 n1 → Ev I p (dropC n c) (gT t1) ⟨gH h1, n1⟩ K → Ev I p c (gT t) ⟨gH h, nx⟩ K
  | 0, c, t, h, nx, K, t1, h1, n1, e, h2 => by
    cases e
    exact h2
  | n + 1, c, t, h, nx, K, t1, h1, n1, e, h2 => by
    cases c with
    | seq a b =>
      have e' : Rz.rec (motive := fun _ => Rz) .fail (runChain rc (takeC n b)) (fun _ _ _ _ => .fail) (fun _ _ _ => .fail) (codeK rc a t h nx) = .norm t1 h1 n1 := e
      cases hz : codeK rc a t h nx with
      | norm t2 h3 n2 =>
        rw [hz] at e'
        exact seq_norm hrc hz (chain_ev hrc n b t2 h3 n2 e' h2)
      | _ => rw [hz] at e'; cases e'
    | _ => cases e; exact h2

theorem seq_inv {x y : C} (hx : ∀ l wat, x ≠ .drw l wat) {a : Tm} {W : St} {K : Out → Prop} (h : Ev I p (.seq x y) a W K) : ∃ K1 : Out → Prop, Ev I p x a W K1 ∧ (∀ a' w', K1 (.norm a' w') → Ev I p y a' w' K) ∧ (∀ i a' w', K1 (.exit i a' w') → K (.exit i a' w')) ∧ (∀ a' w', K1 (.ret a' w') → K (.ret a' w')) := by
  generalize hc : C.seq x y = c at h
  induction h with
  | seq h1 h2 h3 h4 _ _ => cases hc; exact ⟨_, h1, h2, h3, h4⟩
  | weak hd hw _ ih =>
    obtain ⟨K1, g1, g2⟩ := ih hc
    exact ⟨K1, .weak hx hw g1, g2⟩
  | _ => cases hc

theorem ops_app {l1 l2 : List VO} {a : Tm} {W : St} {K : Out → Prop} (h : Ev I p (.ops l1) a W (fun o => ∃ a' w', o = .norm a' w' ∧ Ev I p (.ops l2) a' w' K)) : Ev I p (.ops (l1 ++ l2)) a W K := by
  generalize hc : C.ops l1 = c at h
  generalize hK : (fun o => ∃ a' w', o = Out.norm a' w' ∧ Ev I p (.ops l2) a' w' K) = K' at h
  induction h generalizing l1 with
  | nil hk =>
    cases hc
    subst hK
    obtain ⟨a', w', e, h2⟩ := hk
    cases e
    exact h2
  | off hw _ ih => cases hc; exact .off hw (ih rfl hK)
  | pu hw hx he _ ih => cases hc; exact .pu hw hx he (ih rfl hK)
  | rd hw hx he _ ih => cases hc; exact .rd hw hx he (ih rfl hK)
  | ef hw hx he _ ih => cases hc; exact .ef hw hx he (ih rfl hK)
  | efs hw hx he _ ih => cases hc; exact .efs hw hx he (fun e hm => ih e hm rfl hK)
  | call r hw ha hp hb hr _ hex _ ihl => cases hc; exact .call r hw ha hp hb hr (fun a' w' hk => ihl a' w' hk rfl hK) hex
  | intr hw ha hi _ ih => cases hc; exact .intr hw ha hi (fun v w' hk => ih v w' hk rfl hK)
  | weak hd hw _ ih => exact .weak (fun l wat e => by cases e) hw (ih hc hK)
  | _ => cases hc

/-- a call in the midst of a statement: known beside its text -/
theorem call_mid (hrc : RcOk I p rc) {l1 l2 : List VO} {o : VO} {co R : C} {t t1 : TT} {h h1 h2 : HH} {nx n1 n2 : Nat} {K : Out → Prop} {f : Nat} {xs : List Val} {v : Val} (e1 : codeK rc (.ops l1) t h nx = .norm t1 h1 n1) (hg : o.guard = none) (hd : inS o.dst = true) (ha : argsOf (gT t1) o.op = some (f, xs))
    (hi : I f xs ⟨gH h1, n1⟩ (fun v' W => v' = v ∧ W = ⟨gH h2, n2⟩)) (hgood : Good (codeK rc (.seq (.seq (.ops l2) co) R) (finK o.dst v t1) h2 n2) K) : Ev I p (.seq (.seq (.ops (l1 ++ o :: l2)) co) R) (gT t) ⟨gH h, nx⟩ K := by
  have hE := code_snd hrc _ _ _ _ _ hgood
  obtain ⟨K1, g1, g2, g3, g4⟩ := seq_inv (fun l wat e => by cases e) hE
  obtain ⟨K2, j1, j2, j3, j4⟩ := seq_inv (fun l wat e => by cases e) g1
  rw [gT_fin hd] at j1
  have hops : Ev I p (.ops (l1 ++ o :: l2)) (gT t) ⟨gH h, nx⟩ K2 := by
    refine ops_app (code_snd hrc _ _ _ _ _ ?_)
    rw [e1]
    refine ⟨_, _, rfl, .intr (by rw [hg]; rfl) ha hi ?_⟩
    rintro v' W ⟨rfl, rfl⟩
    exact j1
  exact .seq (.seq hops j2 j3 j4) g2 g3 g4

/-- what a branch of a loop over a map goes through: the rest of its round, then the rest of the loop -/
def branchK (rc : RcT) (d : Option Nat) (l : List VO) (r1 : C) (b : C) (t : TT) (h : HH) (e : Ef) (K : Out → Prop) : Prop :=
  ∃ t1 h1 n1 t2 h2 n2, codeK rc (.ops l) (finK d e.v t) (putK h e.p) e.nx = .norm t1 h1 n1 ∧ codeK rc r1 t1 h1 n1 = .norm t2 h2 n2 ∧ Good (codeK rc (.loop b) t2 h2 n2) K

theorem loop_first (hrc : RcOk I p rc) {x : Opd} {d : Option Nat} {l : List VO} {r1 : C} {t : TT} {h : HH} {nx : Nat} {es : List Ef} {K : Out → Prop} (hd : inS d = true) (hes : nextEs (gH h) nx (x.ev (gT t)) = some es)
    (hall : ∀ e ∈ es, pOk e.p = true ∧ branchK rc d l r1 (.seq (.ops (⟨.ef (.nextM x), d, none⟩ :: l)) r1) t h e K) : Ev I p (.loop (.seq (.ops (⟨.ef (.nextM x), d, none⟩ :: l)) r1)) (gT t) ⟨gH h, nx⟩ K := by
  refine .loop (K1 := fun o => ∃ t2 h2 n2, o = .norm (gT t2) ⟨gH h2, n2⟩ ∧ Good (codeK rc (.loop (.seq (.ops (⟨.ef (.nextM x), d, none⟩ :: l)) r1)) t2 h2 n2) K) ?_ (fun a' w' ⟨t2, h2, n2, e, hg⟩ => by cases e; exact code_snd hrc _ _ _ _ _ hg) (fun i a' w' ⟨t2, h2, n2, e, hg⟩ => by cases e) (fun a' w' ⟨t2, h2, n2, e, hg⟩ => by cases e)
  refine .seq (K1 := fun o => ∃ t1 h1 n1 t2 h2 n2, o = .norm (gT t1) ⟨gH h1, n1⟩ ∧ codeK rc r1 t1 h1 n1 = .norm t2 h2 n2 ∧ Good (codeK rc (.loop (.seq (.ops (⟨.ef (.nextM x), d, none⟩ :: l)) r1)) t2 h2 n2) K) ?_ ?_ (fun i a' w' ⟨_, _, _, _, _, _, e, _⟩ => by cases e) (fun a' w' ⟨_, _, _, _, _, _, e, _⟩ => by cases e)
  · refine .efs rfl rfl hes (fun e he => ?_)
    obtain ⟨hp, t1, h1, n1, t2, h2, n2, e1, e2, e3⟩ := hall e he
    have hE := code_snd hrc (.ops l) (finK d e.v t) (putK h e.p) e.nx (fun o => ∃ t1 h1 n1 t2 h2 n2, o = .norm (gT t1) ⟨gH h1, n1⟩ ∧ codeK rc r1 t1 h1 n1 = .norm t2 h2 n2 ∧ Good (codeK rc (.loop (.seq (.ops (⟨.ef (.nextM x), d, none⟩ :: l)) r1)) t2 h2 n2) K) (by rw [e1]; exact ⟨t1, h1, n1, t2, h2, n2, rfl, e2, e3⟩)
    rw [gT_fin hd, gH_put _ _ hp] at hE
    exact hE
  · rintro a' w' ⟨t1, h1, n1, t2, h2, n2, e, e2, e3⟩
    cases e
    refine code_snd hrc r1 t1 h1 n1 _ ?_
    rw [e2]
    exact ⟨t2, h2, n2, rfl, e3⟩

end

section
variable {P : Program} {B0 : Nat} {β β' : Bm} {W W' W'' : St} {w w' : World}
/-- blocks that came to be are given up -/
theorem Sim.killNew (h : Sim B0 β W w β' W' w') (hn : W''.nx = W'.nx) (hh : ∀ b, W''.h b = W'.h b ∨ (W.nx ≤ b ∧ W''.h b = .dead)) : Sim B0 β W w β' W'' w' := by
  have live : ∀ b, (W''.h b).live → W''.h b = W'.h b := fun b hl => by
    rcases hh b with e | ⟨_, e⟩
    · exact e
    · rw [e] at hl; exact hl.elim
  refine ⟨⟨h.rel.low, fun b hb => h.rel.fresh b (by rw [← hn]; exact hb), fun b L e => ?_, fun b1 b2 L1 L2 hne e1 e2 l1 l2 => h.rel.dis b1 b2 L1 L2 hne e1 e2 (by rw [← live b1 l1]; exact l1) (by rw [← live b2 l2]; exact l2)⟩, h.le, by rw [hn]; exact h.nx, fun b hb hnb => ?_, h.size, fun b L e hw => ?_, h.cells, h.objs, h.tape, h.os, h.output⟩
  · rcases hh b with e' | ⟨_, e'⟩
    · rw [e']; exact h.rel.blk b L e
    · rw [e']; trivial
  · obtain ⟨g1, g2⟩ := h.ghost b hb hnb
    refine ⟨g1, ?_⟩
    rcases hh b with e' | ⟨e', _⟩
    · rw [e']; exact g2
    · omega
  · have hl := live b (Blk.wr_live hw)
    rw [hl] at hw
    exact h.own b L e hw
end
end Go.Vx

/- slices.Sorted of the keys of a map with one entry, known by its contract. Conditions: the contract. -/
set_option linter.unusedVariables false
set_option linter.unusedSimpArgs false
namespace Go.Vx

noncomputable def sortedV (ks : List Nat) (te : Nat) (xs : List Val) (h : Nat → Blk) (nx : Nat) : Option Ef := match xs with
  | [.fn f [] [.ptr b 0]] => bif memN f ks then (match h b with
    | .cells c _ z _ ro => bif Nat.beq z 0 && not ro then (match lgetR c 0 with
      | some (.map r) => match h r with
        | .map [(.int .i64 n, _, bn)] clock => bif Nat.ble (Nat.succ bn) clock && (Lit.int .i64 n).wf then some ⟨.sl nx 0 1 none, [(nx, .cells [.int .i64 n] te 1 true false)], Nat.succ nx⟩ else none
        | _ => none
      | _ => none) else none
    | _ => none) else none
  | _ => none

/-- the contract of slices.Sorted over maps.Keys, at one key -/
structure SortedSpec (P : Program) (f : FuncId) (ks : List Nat) (te : TypeId) : Prop where
  ent : Enterable P f
  one : ∀ g, g ∈ ks → ∀ (Bm mb : Nat) (e : MapEntry) (clock : Nat) (n : Int) (w : World), w.cell? ⟨Bm, 0, none⟩ = some (.map (some mb)) → w.heap[mb]? = some (.map #[e] clock) → e.key = .int .i64 n → e.born < clock → (Lit.int .i64 n).wf = true →
    Calls P f #[.func (.func g) #[] #[.pointer (some ⟨Bm, 0, none⟩)]] w fun q w' => ∃ v, q = .returned v ∧ w'.ownsRow w.heap.size te 1 v 1 [.int .i64 n] ∧ Go.RowKit.Below w.heap.size w w'

section
variable {P : Program} {B0 : Nat} {β : Bm} {W : St} {w w' : World}

/-- a block that came to be is told -/
theorem Sim.adopt (h : Rel B0 β W w) (L : Loc) (blk : Blk) (hL : w.heap.size ≤ L.r) (ho : ∀ (R : Nat) (o : Obj), w.heap[R]? = some o → w'.heap[R]? = some o) (hs : w.heap.size ≤ w'.heap.size)
    (hbr : BR B0 (β.add W.nx L) L w'.heap blk) (ht : w'.tape = w.tape) (hos : w'.os = w.os) (hp : w'.output = w.output) : Sim B0 β W w (β.add W.nx L) ⟨upd W.h W.nx blk, W.nx + 1⟩ w' := by
  have hn := h.fresh W.nx (Nat.le_refl _)
  have hle := Bm.add_le L hn
  have hget : ∀ R, R < w.heap.size → w'.heap[R]? = w.heap[R]? := fun R hR => by
    rw [ho R _ (Array.getElem?_eq_getElem hR), Array.getElem?_eq_getElem hR]
  refine ⟨⟨Nat.le_trans h.low hs, ?_, ?_, ?_⟩, hle, Nat.le_succ _, ?_, hs, ?_, ?_, ?_, ht, hos, hp⟩
  · intro b hb
    have : W.nx + 1 ≤ b := hb
    unfold Bm.add
    rw [if_neg (by omega)]
    exact h.fresh b (by omega)
  · intro b L' e
    by_cases hb : b = W.nx
    · subst hb
      rw [Bm.add_self] at e
      cases e
      show BR _ _ _ _ (upd W.h W.nx blk W.nx)
      rw [upd_self]
      exact hbr
    · have e' : β b = some L' := by simpa [Bm.add, hb] using e
      show BR _ _ _ _ (upd W.h W.nx blk b)
      rw [upd_ne _ _ hb]
      by_cases hl : (W.h b).live
      · exact (h.blk b L' e').mono hle (hget _ ((h.blk b L' e').lt hl))
      · cases hx : W.h b with
        | dead => trivial
        | _ => rw [hx] at hl; exact (hl trivial).elim
  · intro b b' L1 L2 hne e1 e2 hl1 hl2
    by_cases hb : b = W.nx
    · subst hb
      rw [Bm.add_self] at e1
      cases e1
      have hb' : b' ≠ W.nx := fun e => hne e.symm
      have e2' : β b' = some L2 := by simpa [Bm.add, hb'] using e2
      have hl2' : (W.h b').live := by simpa [upd_ne _ _ hb'] using hl2
      have := (h.blk b' L2 e2').lt hl2'
      exact .inl (by omega)
    · have e1' : β b = some L1 := by simpa [Bm.add, hb] using e1
      have hl1' : (W.h b).live := by simpa [upd_ne _ _ hb] using hl1
      by_cases hb' : b' = W.nx
      · subst hb'
        rw [Bm.add_self] at e2
        cases e2
        have := (h.blk b L1 e1').lt hl1'
        exact .inl (by omega)
      · have e2' : β b' = some L2 := by simpa [Bm.add, hb'] using e2
        have hl2' : (W.h b').live := by simpa [upd_ne _ _ hb'] using hl2
        exact h.dis b b' L1 L2 hne e1' e2' hl1' hl2'
  · intro b hb hnb
    have : b ≠ W.nx := by omega
    exact ⟨by simp [Bm.add, this, hnb], upd_ne _ _ this⟩
  · intro b L' e hw
    by_cases hb : b = W.nx
    · subst hb
      rw [Bm.add_self] at e
      cases e
      exact .inl hL
    · have e' : β b = some L' := by simpa [Bm.add, hb] using e
      have hw' : (W.h b).wr := by simpa [upd_ne _ _ hb] using hw
      exact .inr ⟨b, L', e', hw', rfl, Nat.le_refl _, Nat.le_refl _⟩
  · intro R cs e fz hR
    exact ⟨cs, ho R _ hR, rfl, fun _ _ => rfl⟩
  · intro R o' hR _
    exact ho R _ hR

theorem sorted_ok {f : FuncId} {ks : List Nat} {te : TypeId} (S : SortedSpec P f ks te) (hrel : Rel B0 β W w) {xs : List Val} {args : Array Value} (hx : VRs β xs args.toList) {e : Ef} (h : sortedV ks te xs W.h W.nx = some e) :
    Calls P f args w fun q w' => ∃ β' u, q = .returned u ∧ VR β' e.v u ∧ Sim B0 β W w β' (W.eff e) w' := by
  unfold sortedV at h
  split at h
  case h_2 => cases h
  rename_i g b
  cases hm : memN g ks with
  | false => rw [hm] at h; cases h
  | true =>
    rw [hm] at h
    simp only [cond_true] at h
    split at h
    case h_2 => cases h
    rename_i c el z op ro hb
    cases hz : (Nat.beq z 0 && !ro) with
    | false => rw [hz] at h; cases h
    | true =>
      rw [hz] at h
      simp only [cond_true, lgetR_eq] at h
      simp only [Bool.and_eq_true, Bool.not_eq_true'] at hz
      obtain ⟨z0, z1⟩ := hz
      subst z1
      have := Nat.eq_of_beq_eq_true z0
      subst this
      split at h
      case h_2 => cases h
      rename_i r hg0
      split at h
      case h_2 => cases h
      rename_i n vv bn clock hr
      cases hc : (Nat.ble (Nat.succ bn) clock && (Lit.int .i64 n).wf) with
      | false => rw [hc] at h; cases h
      | true =>
        rw [hc] at h
        simp only [cond_true, Option.some.injEq] at h
        subst h
        simp only [Bool.and_eq_true] at hc
        obtain ⟨c1, c2⟩ := hc
        have hlt := Nat.le_of_ble_eq_true c1
        cases args with | mk la =>
        cases hx with | cons _ u1 _ l1 h1 hx =>
        cases hx
        cases h1 with | fn _ _ _ fs cs q1 q2 =>
        obtain ⟨fs⟩ := fs
        obtain ⟨cs⟩ := cs
        cases q1
        cases q2 with | cons _ u2 _ l2 h2 q2 =>
        cases q2
        cases h2 with | ptr _ _ L hL =>
        have hbr := hrel.blk b L hL
        rw [hb] at hbr
        obtain ⟨cs0, fz, b1, b2, b3, b4, b5, b6, b7⟩ := hbr
        have hbase := (b7 rfl).2.2.2 rfl
        obtain ⟨u, hu, hvu⟩ := b6 0 (.map r) (by rw [← lget_eq]; exact hg0)
        cases hvu with | map _ Lm hLm =>
        have hbm := hrel.blk r Lm hLm
        rw [hr] at hbm
        obtain ⟨res, m1, m2, _⟩ := hbm
        obtain ⟨res⟩ := res
        cases m2 with | cons k v _ k' v' _ _ hk hv m2 =>
        cases m2
        cases hk
        have hcell : w.cell? ⟨L.r, 0, none⟩ = some (.map (some Lm.r)) := by
          rw [cell_at b1]
          rw [hbase] at hu
          exact hu
        have e0 : L.base + 0 = 0 := by omega
        rw [e0]
        refine (S.one g (memN_true hm) L.r Lm.r _ clock n w hcell m1 rfl hlt c2).mono ?_
        rintro q w' ⟨v1, rfl, hrow, hbel⟩
        obtain ⟨r1, r2⟩ := hrow
        rcases r2 with ⟨_, r2⟩ | ⟨gb, cap, cur, rfl, r3, r4, r5, r6, r7, r8⟩
        · cases r2
        · have hcl : cur[0]? = some (.int .i64 n) := by
            have : (cur.toList.take (1 * 1))[0]? = some (.int .i64 n) := by rw [r8]; rfl
            rw [List.getElem?_take, if_pos (by omega)] at this
            simpa using this
          refine ⟨β.add W.nx ⟨gb, 0, cap, 1⟩, _, rfl, .slo W.nx 0 1 cap ⟨gb, 0, cap, 1⟩ (Bm.add_self _ _ _) (by show 0 + cap * 1 = cap; omega), ?_⟩
          refine Sim.adopt hrel ⟨gb, 0, cap, 1⟩ _ r3 (fun R o' hR => by rw [hbel.block R (getElem?_lt hR)]; exact hR) hbel.size ?_ hbel.tape hbel.os hbel.output
          refine ⟨cur, (0, 0), r4, by show 0 + cap ≤ _; omega, rfl, by show 1 ≤ cap; exact r5, fun h => (by cases h), fun i v hi => ?_, fun _ => ⟨by have := hrel.low; show B0 ≤ gb; omega, .inr (Nat.zero_le _), fun _ => rfl, fun h => (by cases h)⟩⟩
          match i, hi with
          | 0, hi =>
            cases hi
            exact ⟨_, hcl, .int _ _⟩
          | i + 1, hi => simp at hi
end
end Go.Vx

/- What is known of functions beside their text, put together; a call at one state. Conditions: none. -/
set_option linter.unusedVariables false
namespace Go.Vx

noncomputable def orK (k1 k2 : Nat → Option (List Val → (Nat → Blk) → Nat → Option Ef)) (f : Nat) : Option (List Val → (Nat → Blk) → Nat → Option Ef) := Option.rec (motive := fun _ => Option (List Val → (Nat → Blk) → Nat → Option Ef)) (k2 f) (fun g => some g) (k1 f)
noncomputable def insT (ins : List (Nat × Nat × Nat)) (f : Nat) : Option (List Val → (Nat → Blk) → Nat → Option Ef) :=
  List.rec (motive := fun _ => Option (List Val → (Nat → Blk) → Nat → Option Ef)) none (fun q _ ih => bif Nat.beq f q.1 then some (insV q.2.1 q.2.2) else ih) ins
noncomputable def sortT (so : Nat) (ks : List Nat) (te : Nat) (f : Nat) : Option (List Val → (Nat → Blk) → Nat → Option Ef) := bif Nat.beq f so then some (sortedV ks te) else none
/-- blocks that are given up -/
noncomputable def deadL (l : List Nat) : List (Nat × Blk) := List.rec (motive := fun _ => List (Nat × Blk)) [] (fun b _ ih => (b, .dead) :: ih) l
noncomputable def allGe (n : Nat) (l : List Nat) : Bool := List.rec (motive := fun _ => Bool) true (fun b _ ih => bif Nat.ble n b then ih else false) l

section
variable {P : Program} {p : Nat → Option VF}

theorem or_ok {B0 : Nat} {k1 k2 : Nat → Option (List Val → (Nat → Blk) → Nat → Option Ef)} (h1 : IOk P B0 (IK k1)) (h2 : IOk P B0 (IK k2)) : IOk P B0 (IK (orK k1 k2)) := by
  rintro f xs W K ⟨g, e, h, h', hk⟩
  unfold orK at h
  cases hk1 : k1 f with
  | some g1 =>
    rw [hk1] at h
    cases h
    exact h1 f xs W K ⟨_, e, hk1, h', hk⟩
  | none =>
    rw [hk1] at h
    exact h2 f xs W K ⟨g, e, h, h', hk⟩

theorem insT_ok (hp : ∀ f vf, p f = some vf → fnC P f = some vf) (hm : P.follows .mixedOrders = true) : ∀ ins : List (Nat × Nat × Nat), (∀ q ∈ ins, InsText p q) → ∀ B0, IOk P B0 (IK (insT ins))
  | [], _, B0 => by
    rintro f xs W K ⟨g, e, h, _⟩
    cases h
  | q :: l, hins, B0 => by
    rintro f xs W K ⟨g, e, h, h', hk⟩
    have e1 : insT (q :: l) f = bif Nat.beq f q.1 then some (insV q.2.1 q.2.2) else insT l f := rfl
    rw [e1] at h
    cases hb : Nat.beq f q.1 with
    | true =>
      rw [hb] at h
      cases h
      have := Nat.eq_of_beq_eq_true hb
      subst this
      obtain ⟨by0, z, cl, vf, t1, t2, t3, t4, t5⟩ := hins q List.mem_cons_self
      exact ⟨enterable_of (hp _ _ t1), fun β w args hx hrel => (ins_ok hp hm t1 t2 t3 t4 t5 hrel hx h').mono fun q' w' ⟨β', u, e1, e2, e3⟩ => ⟨_, _, β', u, e1, hk, e2, e3⟩⟩
    | false =>
      rw [hb] at h
      exact insT_ok hp hm l (fun q' hq' => hins q' (List.mem_cons_of_mem _ hq')) B0 f xs W K ⟨g, e, h, h', hk⟩

theorem sortT_ok {so : Nat} {ks : List Nat} {te : Nat} (S : SortedSpec P so ks te) (B0 : Nat) : IOk P B0 (IK (sortT so ks te)) := by
  rintro f xs W K ⟨g, e, h, h', hk⟩
  unfold sortT at h
  cases hb : Nat.beq f so with
  | false => rw [hb] at h; cases h
  | true =>
    rw [hb] at h
    cases h
    have := Nat.eq_of_beq_eq_true hb
    subst this
    exact ⟨S.ent, fun β w args hx hrel => (sorted_ok S hrel hx h').mono fun q' w' ⟨β', u, e1, e2, e3⟩ => ⟨_, _, β', u, e1, hk, e2, e3⟩⟩

/-- a call of one function with these values at this state -/
def atI (f : Nat) (xs0 : List Val) (W0 : St) (v : Val) (W1 : St) : Intr := fun g xs W K => g = f ∧ xs = xs0 ∧ W = W0 ∧ K v W1

theorem upds_dead : ∀ (l : List Nat) (h : Nat → Blk) (b : Nat), upds h (deadL l) b = h b ∨ (b ∈ l ∧ upds h (deadL l) b = .dead)
  | [], h, b => .inl rfl
  | c :: l, h, b => by
    have e : upds h (deadL (c :: l)) b = upds (upd h c .dead) (deadL l) b := rfl
    rw [e]
    rcases upds_dead l (upd h c .dead) b with h1 | ⟨h1, h2⟩
    · by_cases hb : b = c
      · subst hb
        rw [upd_self] at h1
        exact .inr ⟨List.mem_cons_self, h1⟩
      · rw [upd_ne _ _ hb] at h1
        exact .inl h1
    · exact .inr ⟨List.mem_cons_of_mem _ h1, h2⟩
theorem allGe_spec {n : Nat} : ∀ {l : List Nat}, allGe n l = true → ∀ b ∈ l, n ≤ b
  | [], _, b, hb => by cases hb
  | c :: l, h, b, hb => by
    have e : allGe n (c :: l) = bif Nat.ble n c then allGe n l else false := rfl
    rw [e] at h
    cases hc : Nat.ble n c with
    | false => rw [hc] at h; cases h
    | true =>
      rw [hc] at h
      rcases List.mem_cons.1 hb with rfl | hb
      · exact Nat.le_of_ble_eq_true hc
      · exact allGe_spec h b hb

/-- how a function's code ends, as a call at one state is to be told -/
def EndAt (vf : VF) (n0 : Nat) (v : Val) (h1 : HH) (n1 : Nat) (o : Out) : Prop := ∃ t h dead, (o = .ret (gT t) ⟨gH h, n1⟩ ∨ o = .norm (gT t) ⟨gH h, n1⟩) ∧ resultsV vf (gH h) (gT t) = some v ∧ pOk (deadL dead) = true ∧ allGe n0 dead = true ∧ putK h (deadL dead) = h1

theorem at_ok (hp : ∀ f vf, p f = some vf → fnC P f = some vf) (hm : P.follows .mixedOrders = true) {B0 : Nat} {I : Intr} (hI : IOk P B0 I) {f : Nat} {vf : VF} (hpf : p f = some vf) {xs : List Val} {h0 h1 : HH} {n0 n1 : Nat} {v : Val}
    (hev : Ev I p vf.body (enter xs) ⟨gH h0, n0⟩ (EndAt vf n0 v h1 n1)) : IOk P B0 (atI f xs ⟨gH h0, n0⟩ v ⟨gH h1, n1⟩) := by
  rintro g xs' W K ⟨rfl, rfl, rfl, hk⟩
  refine ⟨enterable_of (hp _ _ hpf), fun β w args hx hrel => ?_⟩
  refine (ev_calls hp hm hI hpf hev (fun _ _ => v) ?_ ?_ hx hrel).mono ?_
  · rintro a' w' (⟨t, h, d, (e | e), hr, _⟩ | ⟨t, h, d, (e | e), hr, _⟩) <;> cases e <;> exact hr
  · rintro i a' w' ⟨t, h, d, (e | e), _⟩ <;> cases e
  · rintro q w' ⟨a', W', β', u, rfl, hkk, hu, hs⟩
    obtain ⟨t, h, d, hW, hpo, hge, hh⟩ : ∃ t h d, W' = ⟨gH h, n1⟩ ∧ pOk (deadL d) = true ∧ allGe n0 d = true ∧ putK h (deadL d) = h1 := by
      rcases hkk with ⟨t, h, d, (e | e), _, g1, g2, g3⟩ | ⟨t, h, d, (e | e), _, g1, g2, g3⟩ <;> cases e <;> exact ⟨t, h, d, rfl, g1, g2, g3⟩
    subst hW
    refine ⟨v, ⟨gH h1, n1⟩, β', u, rfl, hk, hu, Sim.killNew hs rfl (fun b => ?_)⟩
    show gH h1 b = gH h b ∨ _
    rw [← hh, gH_put _ _ hpo]
    rcases upds_dead d (gH h) b with e | ⟨e1, e2⟩
    · exact .inl e
    · exact .inr ⟨allGe_spec hge b e1, e2⟩

theorem or3_ok {B0 : Nat} {I J : Intr} (h1 : IOk P B0 I) (h2 : IOk P B0 J) : IOk P B0 (fun f xs W K => I f xs W K ∨ J f xs W K) := h1.or h2
end
end Go.Vx

/- A law's own code, run with one function left open: it may give any number below its second argument. Conditions: none. -/
set_option linter.unusedVariables false
namespace Go.Vx

inductive Tz where
  | fail
  | norm (t : TT) (h : HH) (nx : Nat)
  | exit (i : Nat) (t : TT) (h : HH) (nx : Nat)
  | ret (t : TT) (h : HH) (nx : Nat)
  | ask (xs : List Val) (h : HH) (nx : Nat) (k : Val → Tz)

abbrev KTz := TT → HH → Nat → Tz
noncomputable def liftT (z : Rz) : Tz := Rz.rec (motive := fun _ => Tz) .fail .norm .exit .ret z
noncomputable def bindT (z : Tz) (f : KTz) : Tz := Tz.rec (motive := fun _ => Tz) .fail f .exit .ret (fun xs h nx _ ih => .ask xs h nx ih) z
noncomputable def blockT (i : Nat) (z : Tz) : Tz := Tz.rec (motive := fun _ => Tz) .fail .norm (fun j t h nx => Bool.rec (motive := fun _ => Tz) (.exit j t h nx) (.norm t h nx) (Nat.beq j i)) .ret (fun xs h nx _ ih => .ask xs h nx ih) z
/-- the arguments of a call of the open function -/
def askOf (fo : Nat) (o : VO) : Option (List Opd) := match o with
  | ⟨.call f xs, _, none⟩ => bif Nat.beq f fo then some xs else none
  | _ => none
noncomputable def opsT (fo : Nat) (rc : RcT) (l : List VO) : KTz := List.rec (motive := fun _ => KTz) .norm (fun o _ ih t h nx =>
  Option.rec (motive := fun _ => Tz) (bindT (liftT (codeK rc (.ops [o]) t h nx)) ih) (fun xs => Bool.rec (motive := fun _ => Tz) .fail (.ask (evsR (gT t) xs) h nx fun v => ih (finK o.dst v t) h nx) (inS o.dst)) (askOf fo o)) l
noncomputable def topK (fo : Nat) (rc : RcT) : C → KTz := fun c => C.rec (motive := fun _ => KTz)
  (.norm)
  (fun l => opsT fo rc l)
  (fun l wat t h nx => liftT (codeK rc (.drw l wat) t h nx))
  (fun _ _ ia ib t h nx => bindT (ia t h nx) ib)
  (fun x _ _ ia ib t h nx => Option.rec (motive := fun _ => Tz) .fail (fun b => Bool.rec (motive := fun _ => Tz) (ib t h nx) (ia t h nx) b) (asB (evR x (gT t))))
  (fun i _ ic t h nx => blockT i (ic t h nx))
  (fun c _ t h nx => liftT (codeK rc (.loop c) t h nx))
  (fun _ ic => ic)
  (fun i => .exit i)
  .ret
  (fun _ _ _ => .fail) c

/-- what an end is worth; an open call: whatever it gives -/
def GoodT (z : Tz) (K : Out → Prop) : Prop := Tz.rec (motive := fun _ => (Out → Prop) → Prop) (fun _ => False) (fun t h nx K => K (.norm (gT t) ⟨gH h, nx⟩)) (fun i t h nx K => K (.exit i (gT t) ⟨gH h, nx⟩)) (fun t h nx K => K (.ret (gT t) ⟨gH h, nx⟩))
  (fun xs h nx _ ih K => ∃ x k, xs = [.int .i64 x, .int .i64 (.ofNat k)] ∧ 0 < k ∧ k < 1000 ∧ ∀ r, r < k → ih (.int .i64 (.ofNat r)) K) z K

theorem good_lift {z : Rz} {K : Out → Prop} (h : GoodT (liftT z) K) : Good z K := by
  cases z <;> exact h
theorem good_bind : ∀ (z : Tz) {f : KTz} {K : Out → Prop}, GoodT (bindT z f) K → GoodT z (fun o => (∃ t h nx, o = .norm (gT t) ⟨gH h, nx⟩ ∧ GoodT (f t h nx) K) ∨ ((∀ a w, o ≠ .norm a w) ∧ K o))
  | .fail, f, K, h => h
  | .norm t h nx, f, K, hg => .inl ⟨t, h, nx, rfl, hg⟩
  | .exit i t h nx, f, K, hg => .inr ⟨fun a w e => (by cases e), hg⟩
  | .ret t h nx, f, K, hg => .inr ⟨fun a w e => (by cases e), hg⟩
  | .ask xs h nx k, f, K, hg => by
    obtain ⟨x, kk, e, h1, h2, h3⟩ := hg
    exact ⟨x, kk, e, h1, h2, fun r hr => good_bind (k (.int .i64 (.ofNat r))) (h3 r hr)⟩
theorem good_block (i : Nat) : ∀ (z : Tz) {K : Out → Prop}, GoodT (blockT i z) K → GoodT z (fun o => match o with | .norm a w => K (.norm a w) | .exit j a w => if j = i then K (.norm a w) else K (.exit j a w) | .ret a w => K (.ret a w))
  | .fail, K, h => h
  | .norm t h nx, K, hg => hg
  | .exit j t h nx, K, hg => by
    have e : blockT i (.exit j t h nx) = Bool.rec (motive := fun _ => Tz) (.exit j t h nx) (.norm t h nx) (Nat.beq j i) := rfl
    rw [e] at hg
    show if j = i then _ else _
    cases hb : Nat.beq j i with
    | true =>
      rw [hb] at hg
      rw [if_pos (Nat.eq_of_beq_eq_true hb)]
      exact hg
    | false =>
      rw [hb] at hg
      rw [if_neg (fun e => by subst e; simp at hb)]
      exact hg
  | .ret t h nx, K, hg => hg
  | .ask xs h nx k, K, hg => by
    obtain ⟨x, kk, e, h1, h2, h3⟩ := hg
    exact ⟨x, kk, e, h1, h2, fun r hr => good_block i (k (.int .i64 (.ofNat r))) (h3 r hr)⟩

section
variable {I : Intr} {p : Nat → Option VF} {rc : RcT} {fo : Nat}

theorem opsT_snd (hI : ∀ f xs W K, withinI fo f xs W K → I f xs W K) (hrc : RcOk I p rc) : ∀ (l : List VO) (t : TT) (h : HH) (nx : Nat) (K : Out → Prop), GoodT (opsT fo rc l t h nx) K → Ev I p (.ops l) (gT t) ⟨gH h, nx⟩ K
  | [], t, h, nx, K, hg => .nil hg
  | o :: l, t, h, nx, K, hg => by
    have ih := opsT_snd hI hrc l
    have e1 : opsT fo rc (o :: l) t h nx = Option.rec (motive := fun _ => Tz) (bindT (liftT (codeK rc (.ops [o]) t h nx)) (opsT fo rc l)) (fun xs => Bool.rec (motive := fun _ => Tz) .fail (.ask (evsR (gT t) xs) h nx fun v => opsT fo rc l (finK o.dst v t) h nx) (inS o.dst)) (askOf fo o) := rfl
    rw [e1] at hg
    cases ha : askOf fo o with
    | none =>
      rw [ha] at hg
      have hb := good_lift (good_bind _ hg)
      have hE := code_snd hrc (.ops [o]) t h nx _ hb
      have := ops_app (l1 := [o]) (l2 := l) (K := K) (I := I) (p := p) (a := gT t) (W := ⟨gH h, nx⟩)
      refine this ?_
      have hmono : ∀ {c : C} {a : Tm} {W : St} {K1 K2 : Out → Prop}, c = .ops [o] → Ev I p c a W K1 → (∀ out, K1 out → (∀ i a w, out ≠ .exit i a w) → (∀ a w, out ≠ .ret a w) → K2 out) → Ev I p c a W K2 := by
        intro c a W K1 K2 hc h hk
        have hgen : ∀ {l : List VO}, c = .ops l → Ev I p c a W K2 := by
          clear hc
          induction h with
          | nil hk1 => intro l hc; cases hc; exact .nil (hk _ hk1 (fun i a w e => by cases e) (fun a w e => by cases e))
          | off hw _ ih => intro l hc; cases hc; exact .off hw (ih hk rfl)
          | pu hw hx he _ ih => intro l hc; cases hc; exact .pu hw hx he (ih hk rfl)
          | rd hw hx he _ ih => intro l hc; cases hc; exact .rd hw hx he (ih hk rfl)
          | ef hw hx he _ ih => intro l hc; cases hc; exact .ef hw hx he (ih hk rfl)
          | efs hw hx he _ ih => intro l hc; cases hc; exact .efs hw hx he (fun e hm => ih e hm hk rfl)
          | call r hw ha hp hb hr _ hex _ ihl => intro l hc; cases hc; exact .call r hw ha hp hb hr (fun a' w' hk' => ihl a' w' hk' hk rfl) hex
          | intr hw ha hi _ ih => intro l hc; cases hc; exact .intr hw ha hi (fun v w' hk' => ih v w' hk' hk rfl)
          | weak hd hw _ ih => intro l hc; exact .weak hd hw (ih hk hc)
          | _ => intro l hc; cases hc
        exact hgen hc
      refine hmono rfl hE ?_
      rintro out (⟨t2, h2, n2, e, hg2⟩ | ⟨hn, hk⟩) he hr
      · exact ⟨_, _, e, ih t2 h2 n2 K hg2⟩
      · cases out with
        | norm a w => exact absurd rfl (hn a w)
        | exit i a w => exact absurd rfl (he i a w)
        | ret a w => exact absurd rfl (hr a w)
    | some xs =>
      rw [ha] at hg
      cases hd : inS o.dst with
      | false => rw [hd] at hg; cases hg
      | true =>
        rw [hd] at hg
        obtain ⟨x, k, e, h1, h2, h3⟩ := hg
        obtain ⟨op, d, g⟩ := o
        cases g with
        | some g => cases op <;> cases ha
        | none =>
          cases op with
          | call f args =>
            simp only [askOf] at ha
            cases hb : Nat.beq f fo with
            | false => rw [hb] at ha; cases ha
            | true =>
              rw [hb] at ha
              cases ha
              have := Nat.eq_of_beq_eq_true hb
              subst this
              rw [evsR_eq] at e
              refine .intr (K1 := fun v W => ∃ r, r < k ∧ v = .int .i64 (.ofNat r) ∧ W = ⟨gH h, nx⟩) rfl rfl (hI _ _ _ _ ⟨rfl, x, k, e, h1, h2, fun r hr => ⟨r, hr, rfl, rfl⟩⟩) ?_
              rintro v W ⟨r, hr, rfl, rfl⟩
              have := ih _ _ _ _ (h3 r hr)
              rw [gT_fin hd] at this
              exact this
          | _ => cases ha

theorem top_snd (hI : ∀ f xs W K, withinI fo f xs W K → I f xs W K) (hrc : RcOk I p rc) : ∀ (c : C) (t : TT) (h : HH) (nx : Nat) (K : Out → Prop), GoodT (topK fo rc c t h nx) K → Ev I p c (gT t) ⟨gH h, nx⟩ K := by
  intro c
  induction c with
  | skip => exact fun t h nx K hg => .skip hg
  | ops l => exact opsT_snd hI hrc l
  | drw l wat => exact fun t h nx K hg => code_snd hrc _ _ _ _ _ (good_lift hg)
  | seq a b iha ihb =>
    intro t h nx K hg
    have e : topK fo rc (.seq a b) t h nx = bindT (topK fo rc a t h nx) (topK fo rc b) := rfl
    rw [e] at hg
    refine .seq (iha t h nx _ (good_bind _ hg)) ?_ ?_ ?_
    · rintro a' w' (⟨t2, h2, n2, e, hg2⟩ | ⟨hn, _⟩)
      · cases e; exact ihb _ _ _ _ hg2
      · exact absurd rfl (hn _ _)
    · rintro i a' w' (⟨t2, h2, n2, e, _⟩ | ⟨_, hk⟩)
      · cases e
      · exact hk
    · rintro a' w' (⟨t2, h2, n2, e, _⟩ | ⟨_, hk⟩)
      · cases e
      · exact hk
  | cond x a b iha ihb =>
    intro t h nx K hg
    have e : topK fo rc (.cond x a b) t h nx = Option.rec (motive := fun _ => Tz) .fail (fun bb => Bool.rec (motive := fun _ => Tz) (topK fo rc b t h nx) (topK fo rc a t h nx) bb) (asB (evR x (gT t))) := rfl
    rw [e, evR_eq] at hg
    cases hx : x.ev (gT t) with
    | bool bb =>
      rw [hx] at hg
      refine .cond bb hx ?_
      cases bb with
      | true => exact iha _ _ _ _ hg
      | false => exact ihb _ _ _ _ hg
    | _ => rw [hx] at hg; cases hg
  | block i c ih =>
    intro t h nx K hg
    have e : topK fo rc (.block i c) t h nx = blockT i (topK fo rc c t h nx) := rfl
    rw [e] at hg
    exact .block (ih _ _ _ _ (good_block i _ hg)) (fun a' w' hk => hk) (fun j a' w' hk => hk) (fun a' w' hk => hk)
  | loop c _ => exact fun t h nx K hg => code_snd hrc _ _ _ _ _ (good_lift hg)
  | scope c ih => exact fun t h nx K hg => .scope (ih _ _ _ _ hg)
  | exit i => exact fun t h nx K hg => .exit hg
  | ret => exact fun t h nx K hg => .ret hg
  | bad => exact fun t h nx K hg => hg.elim
end
end Go.Vx

/- A law's own code, run with one function left open: part by part of what that function may give. Conditions: none. -/
set_option linter.unusedVariables false
namespace Go.Vx

/-- from a number on, so many -/
noncomputable def allIn (lo n : Nat) (f : Nat → Bool) : Bool := Nat.rec (motive := fun _ => Bool) true (fun i ih => Bool.rec (motive := fun _ => Bool) false ih (f (Nat.add lo i))) n
theorem allIn_spec {lo : Nat} {f : Nat → Bool} : ∀ {n : Nat}, allIn lo n f = true → ∀ r, lo ≤ r → r < lo + n → f r = true
  | 0, _, r, h1, h2 => by omega
  | n + 1, h, r, h1, h2 => by
    have e : allIn lo (n + 1) f = Bool.rec (motive := fun _ => Bool) false (allIn lo n f) (f (Nat.add lo n)) := rfl
    rw [e] at h
    cases hf : f (Nat.add lo n) with
    | false => rw [hf] at h; cases h
    | true =>
      rw [hf] at h
      rcases Nat.lt_or_ge r (lo + n) with h3 | h3
      · exact allIn_spec h r h1 h3
      · have : r = lo + n := by omega
        subst this
        exact hf
/-- the second argument of an open call -/
def limOf : List Val → Option Nat
  | [.int .i64 _, .int .i64 (.ofNat k)] => bif Nat.ble 1 k && Nat.ble k 999 then some k else none
  | _ => none
def rgLo : List (Nat × Nat) → Nat
  | [] => 0
  | q :: _ => q.1
def rgHi (k : Nat) : List (Nat × Nat) → Nat
  | [] => k
  | q :: _ => bif Nat.ble q.2 k then q.2 else k
def rgTl : List (Nat × Nat) → List (Nat × Nat)
  | [] => []
  | _ :: l => l
noncomputable def okRg (s : Nat) (z : Tz) : List (Nat × Nat) → Bool := Tz.rec (motive := fun _ => List (Nat × Nat) → Bool) (fun _ => false) (fun t _ _ _ => isT (get2 .undef t s)) (fun _ _ _ _ _ => false) (fun t _ _ _ => isT (get2 .undef t s))
  (fun xs _ _ _ ih l => Option.rec (motive := fun _ => Bool) false (fun k => allIn (rgLo l) (Nat.sub (rgHi k l) (rgLo l)) fun r => ih (.int .i64 (.ofNat r)) (rgTl l)) (limOf xs)) z

/-- .. as a proposition -/
def RgT (s : Nat) (z : Tz) : List (Nat × Nat) → Prop := Tz.rec (motive := fun _ => List (Nat × Nat) → Prop) (fun _ => False) (fun t _ _ _ => gT t s = .bool true) (fun _ _ _ _ _ => False) (fun t _ _ _ => gT t s = .bool true)
  (fun xs _ _ _ ih l => ∃ x k, xs = [.int .i64 x, .int .i64 (.ofNat k)] ∧ 0 < k ∧ k < 1000 ∧ ∀ r, r < k → rgLo l ≤ r → r < rgHi k l → ih (.int .i64 (.ofNat r)) (rgTl l)) z

theorem limOf_some {xs : List Val} {k : Nat} (h : limOf xs = some k) : ∃ x, xs = [.int .i64 x, .int .i64 (.ofNat k)] ∧ 0 < k ∧ k < 1000 := by
  unfold limOf at h
  split at h
  · rename_i x k'
    cases hb : (Nat.ble 1 k' && Nat.ble k' 999) with
    | false => rw [hb] at h; cases h
    | true =>
      rw [hb] at h
      cases h
      simp only [Bool.and_eq_true] at hb
      have h1 := Nat.le_of_ble_eq_true hb.1
      have h2 := Nat.le_of_ble_eq_true hb.2
      exact ⟨x, rfl, by omega, by omega⟩
  · cases h

theorem okRg_spec {s : Nat} : ∀ (z : Tz) (l : List (Nat × Nat)), okRg s z l = true → RgT s z l
  | .fail, l, h => by cases h
  | .norm t h' nx, l, h => isT_true h
  | .exit i t h' nx, l, h => by cases h
  | .ret t h' nx, l, h => isT_true h
  | .ask xs h' nx k, l, h => by
    have e : okRg s (.ask xs h' nx k) l = Option.rec (motive := fun _ => Bool) false (fun kk => allIn (rgLo l) (Nat.sub (rgHi kk l) (rgLo l)) fun r => okRg s (k (.int .i64 (.ofNat r))) (rgTl l)) (limOf xs) := rfl
    rw [e] at h
    cases hl : limOf xs with
    | none => rw [hl] at h; cases h
    | some kk =>
      rw [hl] at h
      obtain ⟨x, e1, h1, h2⟩ := limOf_some hl
      refine ⟨x, kk, e1, h1, h2, fun r hr hlo hhi => okRg_spec (k (.int .i64 (.ofNat r))) (rgTl l) (allIn_spec h r hlo ?_)⟩
      show r < rgLo l + (rgHi kk l - rgLo l)
      omega

theorem rgHi_cons (k a b : Nat) (l : List (Nat × Nat)) : rgHi k ((a, b) :: l) = min b k := by
  show (bif Nat.ble b k then b else k) = _
  cases h : Nat.ble b k with
  | true => have := Nat.le_of_ble_eq_true h; simp; omega
  | false =>
    have : ¬ b ≤ k := fun h' => by rw [Nat.ble_eq_true_of_le h'] at h; cases h
    simp; omega

/-- two parts of what the first call may give -/
theorem rg_join {s : Nat} {z : Tz} {a m b : Nat} {l : List (Nat × Nat)} (h1 : RgT s z ((a, m) :: l)) (h2 : RgT s z ((m, b) :: l)) : RgT s z ((a, b) :: l) := by
  cases z with
  | ask xs h nx k =>
    obtain ⟨x, kk, e, g1, g2, g3⟩ := h1
    obtain ⟨x', kk', e', _, _, g3'⟩ := h2
    have : kk' = kk := by rw [e] at e'; cases e'; rfl
    subst this
    refine ⟨x, kk', e, g1, g2, fun r hr hlo hhi => ?_⟩
    rw [rgHi_cons] at g3 g3' hhi
    have hlo' : a ≤ r := hlo
    rcases Nat.lt_or_ge r m with h | h
    · exact g3 r hr hlo' (by omega)
    · exact g3' r hr h (by omega)
  | _ => exact h1
/-- all that the first call may give -/
theorem rg_all {s : Nat} {z : Tz} {b : Nat} {l : List (Nat × Nat)} (hb : 1000 ≤ b) (h : RgT s z ((0, b) :: l)) (hl : l = []) : RgT s z [] := by
  subst hl
  cases z with
  | ask xs h' nx k =>
    obtain ⟨x, kk, e, g1, g2, g3⟩ := h
    refine ⟨x, kk, e, g1, g2, fun r hr _ _ => ?_⟩
    rw [rgHi_cons] at g3
    exact g3 r hr (Nat.zero_le _) (by omega)
  | _ => exact h
/-- .. the second call -/
theorem rg_under {s : Nat} {z : Tz} {q : Nat × Nat} {l l1 l2 : List (Nat × Nat)} (hh : ∀ z', RgT s z' l1 → RgT s z' l2 → RgT s z' l) (h1 : RgT s z (q :: l1)) (h2 : RgT s z (q :: l2)) : RgT s z (q :: l) := by
  cases z with
  | ask xs h nx k =>
    obtain ⟨x, kk, e, g1, g2, g3⟩ := h1
    obtain ⟨x', kk', e', _, _, g3'⟩ := h2
    have : kk' = kk := by rw [e] at e'; cases e'; rfl
    subst this
    exact ⟨x, kk', e, g1, g2, fun r hr hlo hhi => hh _ (g3 r hr hlo hhi) (g3' r hr hlo hhi)⟩
  | _ => exact h1
theorem rg_good {s : Nat} : ∀ (z : Tz), RgT s z [] → GoodT z (SaidT s)
  | .fail, h => h.elim
  | .norm t h' nx, h => ⟨_, _, .inr rfl, h⟩
  | .exit i t h' nx, h => h.elim
  | .ret t h' nx, h => ⟨_, _, .inl rfl, h⟩
  | .ask xs h' nx k, h => by
    obtain ⟨x, kk, e, g1, g2, g3⟩ := h
    exact ⟨x, kk, e, g1, g2, fun r hr => rg_good (k (.int .i64 (.ofNat r))) (g3 r hr (Nat.zero_le _) hr)⟩
end Go.Vx

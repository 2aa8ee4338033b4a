/- The abstract machine V over any loaded program, part 3: its operations, its rules, its soundness, its evaluator. Conditions: none. -/
import Derived.Test.YtellhgeiaepeiaaGreatDoorVb
import Derived.ProofKit
import GoSem.ClaimGoes

set_option linter.unusedVariables false
namespace Go.Vx

def insB (el s by0 : Nat) (z : List Val) : C := (.seq (.ops [⟨.pu (.move (.t 0)), some 32, none⟩, ⟨.pu (.move (.t 1)), some 33, none⟩, ⟨.rd (.sliceS s (.t 32) none (some (.t 33)) none), some 34, none⟩, ⟨.pu (.move (.t 8)), some 35, none⟩, ⟨.pu (.move (.t 7)), some 36, none⟩, ⟨.pu (.bin .add (.t 35) (.t 36)), some 37, none⟩, ⟨.pu (.move (.t 1)), some 38, none⟩, ⟨.pu (.bin .sub (.t 37) (.t 38)), some 39, none⟩, ⟨.ef (.appendZ el s by0 z (.t 34) (.t 39)), some 40, none⟩, ⟨.pu (.move (.t 40)), some 9, none⟩]) (.seq (.ops [⟨.pu (.move (.t 9)), some 41, none⟩, ⟨.pu (.move (.t 1)), some 42, none⟩, ⟨.rd (.sliceS s (.t 41) (some (.t 42)) none none), some 43, none⟩, ⟨.pu (.move (.t 2)), some 44, none⟩, ⟨.ef (.copy s (.t 43) (.t 44)), some 45, none⟩]) (.seq (.drw [(⟨.pu (.move (.t 9)), some 46, none⟩, 0, [9]), (⟨.pu (.move (.t 1)), some 47, none⟩, 0, [1]), (⟨.pu (.move (.t 7)), some 48, none⟩, 0, [7]), (⟨.pu (.bin .add (.t 47) (.t 48)), some 49, none⟩, 0, [47, 48]), (⟨.rd (.sliceS s (.t 46) (some (.t 49)) none none), some 50, none⟩, 0, [46, 49]), (⟨.pu (.move (.t 0)), some 51, none⟩, 0, [0]), (⟨.pu (.move (.t 1)), some 52, none⟩, 0, [1]), (⟨.rd (.sliceS s (.t 51) (some (.t 52)) none none), some 53, none⟩, 0, [51, 52]), (⟨.ef (.copy s (.t 50) (.t 53)), some 54, none⟩, 0, [50, 53])] []) (.seq (.ops [⟨.pu (.move (.t 9)), some 55, none⟩, ⟨.pu (.move (.t 55)), some 6, none⟩]) .ret))))
def insS (s : Nat) : C := (.seq (.drw [(⟨.pu (.move (.t 0)), some 69, none⟩, 0, [0]), (⟨.pu (.move (.t 1)), some 70, none⟩, 0, [1]), (⟨.pu (.move (.t 7)), some 71, none⟩, 0, [7]), (⟨.pu (.bin .add (.t 70) (.t 71)), some 72, none⟩, 0, [70, 71]), (⟨.rd (.sliceS s (.t 69) (some (.t 72)) none none), some 73, none⟩, 0, [69, 72]), (⟨.pu (.move (.t 0)), some 74, none⟩, 0, [0]), (⟨.pu (.move (.t 1)), some 75, none⟩, 0, [1]), (⟨.rd (.sliceS s (.t 74) (some (.t 75)) none none), some 76, none⟩, 0, [74, 75]), (⟨.ef (.copy s (.t 73) (.t 76)), some 77, none⟩, 0, [73, 76])] []) (.seq (.ops [⟨.pu (.move (.t 0)), some 78, none⟩, ⟨.pu (.move (.t 1)), some 79, none⟩, ⟨.rd (.sliceS s (.t 78) (some (.t 79)) none none), some 80, none⟩, ⟨.pu (.move (.t 2)), some 81, none⟩, ⟨.ef (.copy s (.t 80) (.t 81)), some 82, none⟩]) (.seq (.ops [⟨.pu (.move (.t 0)), some 83, none⟩, ⟨.pu (.move (.t 83)), some 6, none⟩]) .ret)))
def insR (s cl : Nat) : C := (.seq (.ops [⟨.pu (.move (.t 0)), some 56, none⟩, ⟨.pu (.move (.t 8)), some 57, none⟩, ⟨.pu (.move (.t 7)), some 58, none⟩, ⟨.pu (.bin .add (.t 57) (.t 58)), some 59, none⟩, ⟨.rd (.sliceS s (.t 56) none (some (.t 59)) none), some 60, none⟩, ⟨.pu (.move (.t 60)), some 0, none⟩]) (.seq (.seq (.ops [⟨.pu (.move (.t 2)), some 61, none⟩, ⟨.pu (.move (.t 0)), some 62, none⟩, ⟨.pu (.move (.t 1)), some 63, none⟩, ⟨.pu (.move (.t 7)), some 64, none⟩, ⟨.pu (.bin .add (.t 63) (.t 64)), some 65, none⟩, ⟨.rd (.sliceS s (.t 62) (some (.t 65)) none none), some 66, none⟩, ⟨.rd (.overl s (.t 61) (.t 66)), some 67, none⟩, ⟨.pu (.un .not (.t 67)), some 68, none⟩]) (.cond (.t 68) (insS s) .skip)) (.seq (.ops [⟨.pu (.move (.t 0)), some 84, none⟩, ⟨.pu (.move (.t 8)), some 85, none⟩, ⟨.rd (.sliceS s (.t 84) (some (.t 85)) none none), some 86, none⟩, ⟨.pu (.move (.t 2)), some 87, none⟩, ⟨.ef (.copy s (.t 86) (.t 87)), some 88, none⟩]) (.seq (.ops [⟨.pu (.move (.t 0)), some 89, none⟩, ⟨.pu (.move (.t 1)), some 90, none⟩, ⟨.rd (.sliceS s (.t 89) (some (.t 90)) none none), some 91, none⟩, ⟨.pu (.move (.t 7)), some 92, none⟩, ⟨.call cl [(.t 91), (.t 92)], some 93, none⟩]) (.seq (.ops [⟨.pu (.move (.t 0)), some 94, none⟩, ⟨.pu (.move (.t 94)), some 6, none⟩]) .ret)))))
def insC (el s by0 : Nat) (z : List Val) (cl : Nat) : C := (.seq (.ops [⟨.pu (.move (.c .nils)), some 6, none⟩]) (.seq (.ops [⟨.pu (.move (.t 0)), some 10, none⟩, ⟨.pu (.move (.t 1)), some 11, none⟩, ⟨.rd (.sliceS s (.t 10) (some (.t 11)) none none), some 12, none⟩]) (.seq (.ops [⟨.pu (.move (.t 2)), some 13, none⟩, ⟨.pu (.len (.t 13)), some 14, none⟩, ⟨.pu (.move (.t 14)), some 7, none⟩]) (.seq (.seq (.ops [⟨.pu (.move (.t 7)), some 15, none⟩, ⟨.pu (.bin .eql (.t 15) (.c (.int .i64 (0)))), some 16, none⟩]) (.cond (.t 16) (.seq (.ops [⟨.pu (.move (.t 0)), some 17, none⟩, ⟨.pu (.move (.t 17)), some 6, none⟩]) .ret) .skip)) (.seq (.ops [⟨.pu (.move (.t 0)), some 18, none⟩, ⟨.pu (.len (.t 18)), some 19, none⟩, ⟨.pu (.move (.t 19)), some 8, none⟩]) (.seq (.seq (.ops [⟨.pu (.move (.t 1)), some 20, none⟩, ⟨.pu (.move (.t 8)), some 21, none⟩, ⟨.pu (.bin .eql (.t 20) (.t 21)), some 22, none⟩]) (.cond (.t 22) (.seq (.ops [⟨.pu (.move (.t 0)), some 23, none⟩, ⟨.pu (.move (.t 2)), some 24, none⟩, ⟨.ef (.append el s by0 (.t 23) (.t 24)), some 25, none⟩, ⟨.pu (.move (.t 25)), some 6, none⟩]) .ret) .skip)) (.seq (.seq (.ops [⟨.pu (.move (.t 8)), some 26, none⟩, ⟨.pu (.move (.t 7)), some 27, none⟩, ⟨.pu (.bin .add (.t 26) (.t 27)), some 28, none⟩, ⟨.pu (.move (.t 0)), some 29, none⟩, ⟨.pu (.cap (.t 29)), some 30, none⟩, ⟨.pu (.bin .gtr (.t 28) (.t 30)), some 31, none⟩]) (.cond (.t 31) (insB el s by0 z) .skip)) (insR s cl))))))))

theorem big_of {n : Nat} (h : n ≤ 4611686018427387904) : big64 n = true := Nat.ble_eq_true_of_le h
theorem vwrap_big {n : Nat} (h : n ≤ 4611686018427387904) : vwrap .i64 (.ofNat n) = .ofNat n := by
  show (bif (bif small64 .i64 then big64 n else false) then Int.ofNat n else _) = _
  rw [big_of h]; rfl

section
variable {a : Tm} {h : Nat → Blk}

theorem ex_add {x y : Opd} {p q : Nat} (hx : x.ev a = .int .i64 (.ofNat p)) (hy : y.ev a = .int .i64 (.ofNat q)) (hb : p + q ≤ 4611686018427387904) : PuOp.ex a (.bin .add x y) = some (.int .i64 (.ofNat (p + q))) := by
  show binOpV .add (x.ev a) (y.ev a) = _
  rw [hx, hy]
  show some (Val.int .i64 (vwrap .i64 (.ofNat (p + q)))) = _
  rw [vwrap_big hb]
theorem ex_sub {x y : Opd} {p q : Nat} (hx : x.ev a = .int .i64 (.ofNat p)) (hy : y.ev a = .int .i64 (.ofNat q)) (hle : q ≤ p) (hb : p ≤ 4611686018427387904) : PuOp.ex a (.bin .sub x y) = some (.int .i64 (.ofNat (p - q))) := by
  show binOpV .sub (x.ev a) (y.ev a) = _
  rw [hx, hy]
  show some (Val.int .i64 (vwrap .i64 (bif Nat.ble q p then .ofNat (p - q) else _))) = _
  rw [Nat.ble_eq_true_of_le hle, cond_true, vwrap_big (by omega)]
theorem ex_eql {x y : Opd} {p q : Nat} (hx : x.ev a = .int .i64 (.ofNat p)) (hy : y.ev a = .int .i64 (.ofNat q)) : PuOp.ex a (.bin .eql x y) = some (.bool (Nat.beq p q)) := by
  show binOpV .eql (x.ev a) (y.ev a) = _
  rw [hx, hy]
  rfl
theorem ex_gtr {x y : Opd} {p q : Nat} (hx : x.ev a = .int .i64 (.ofNat p)) (hy : y.ev a = .int .i64 (.ofNat q)) : PuOp.ex a (.bin .gtr x y) = some (.bool (Nat.ble (Nat.succ q) p)) := by
  show binOpV .gtr (x.ev a) (y.ev a) = _
  rw [hx, hy]
  rfl
theorem beq_false {p q : Nat} (h : p ≠ q) : Nat.beq p q = false := by
  cases hb : Nat.beq p q
  · rfl
  · exact absurd (Nat.eq_of_beq_eq_true hb) h
theorem ble_false {p q : Nat} (h : q < p) : Nat.ble p q = false := by
  cases hb : Nat.ble p q
  · rfl
  · have := Nat.le_of_ble_eq_true hb; omega

/-- a slice of a slice whose capacity is known -/
theorem ex_sl {s b o n c l k : Nat} {x : Opd} {lo hi : Option Opd} (hx : x.ev a = .sl b o n (some c)) (hlo : optNat a 0 lo = some l) (hhi : optNat a n hi = some k) (h1 : l ≤ k) (h2 : k ≤ c) :
    RdOp.ex a h (.sliceS s x lo hi none) = some (bif Nat.beq c l then .sl b o 0 (some 0) else .sl b (o + l * s) (k - l) (some (c - l))) := by
  have hmx : ∀ d, optNat a d none = some d := fun _ => rfl
  simp only [RdOp.ex, hx, knownCap, hlo, hhi, hmx]
  rw [Nat.ble_eq_true_of_le h1, Nat.ble_eq_true_of_le h2, Nat.ble_eq_true_of_le (Nat.le_refl c)]
  cases Nat.beq c l <;> rfl
theorem ex_sl' {s b o n c l k : Nat} {x : Opd} {lo hi : Option Opd} (hx : x.ev a = .sl b o n (some c)) (hlo : optNat a 0 lo = some l) (hhi : optNat a n hi = some k) (h1 : l ≤ k) (h2 : k ≤ c) (h3 : l < c) :
    RdOp.ex a h (.sliceS s x lo hi none) = some (.sl b (o + l * s) (k - l) (some (c - l))) := by
  rw [ex_sl hx hlo hhi h1 h2, beq_false (by omega)]; rfl
/-- .. from its start on -/
theorem ex_sl0 {s b o n c k : Nat} {x : Opd} {hi : Option Opd} (hx : x.ev a = .sl b o n (some c)) (hhi : optNat a n hi = some k) (h2 : k ≤ c) (h3 : 0 < c) :
    RdOp.ex a h (.sliceS s x none hi none) = some (.sl b o k (some c)) := by
  rw [ex_sl' (l := 0) (k := k) hx rfl hhi (Nat.zero_le _) h2 h3]
  simp
/-- .. whose capacity is not -/
theorem ex_sn {s b o n l k : Nat} {x : Opd} {lo hi : Option Opd} {cs : List Val} {e : Nat} {op ro : Bool} (hx : x.ev a = .sl b o n none) (hb : h b = .cells cs e s op ro) (hs : 0 < s) (hlo : optNat a 0 lo = some l) (hhi : optNat a n hi = some k) (h1 : l ≤ k) (h2 : o + k * s ≤ cs.length) (h3 : o + (l + 1) * s ≤ cs.length) :
    RdOp.ex a h (.sliceS s x lo hi none) = some (.sl b (o + l * s) (k - l) none) := by
  have hq : ∀ j, o + j * s ≤ cs.length → Nat.ble j (Nat.div (Nat.sub (llen cs) o) s) = true := fun j hj => by
    apply Nat.ble_eq_true_of_le
    rw [llen_eq]
    show j ≤ (cs.length - o) / s
    rw [Nat.le_div_iff_mul_le hs]
    omega
  have hbb : Nat.beq s s = true := by simp
  have hmx : ∀ d, optNat a d none = some d := fun _ => rfl
  simp only [RdOp.ex, hx, knownCap, hb, hbb, cond_true, hlo, hhi, hmx]
  rw [Nat.ble_eq_true_of_le h1, hq k h2, Nat.ble_eq_true_of_le (Nat.le_refl _), hq (l + 1) h3]
  rfl
/-- copy, into cells that are known -/
theorem ex_copy {s b o n m nx : Nat} {c : Option Nat} {x y : Opd} {l : List Val} {cs cs' : List Val} {e z : Nat} {op : Bool} (hx : x.ev a = .sl b o n c) (hm : lenOf (y.ev a) = some m) (hf : firstC h s (min n m) (y.ev a) = some l) (hb : h b = .cells cs e z op false) (hok : okAll l = true) (hp : lput cs o l = some cs') :
    EfOp.ex a h nx (.copy s x y) = some ⟨.int .i64 (.ofNat (min n m)), [(b, .cells cs' e z op false)], nx⟩ := by
  simp only [EfOp.ex, hx, hm, hf, hb, hok, hp, cond_false, cond_true]
end
end Go.Vx

/- slices.Insert, at elements of two cells or more: what the machine V's rules come to where the capacity is known. Conditions: none. -/
set_option linter.unusedVariables false
namespace Go.Vx

theorem lput_ex {α : Type} : ∀ (l : List α) (i : Nat) (ys : List α), i + ys.length ≤ l.length → ∃ r, lput l i ys = some r
  | l, i, [], _ => ⟨l, by cases l <;> cases i <;> rfl⟩
  | [], i, _ :: _, h => by simp at h
  | x :: l, 0, y :: ys, h => by
    obtain ⟨r, hr⟩ := lput_ex l 0 ys (by simp at h; omega)
    exact ⟨y :: r, by simp [lput, hr]⟩
  | x :: l, i + 1, y :: ys, h => by
    obtain ⟨r, hr⟩ := lput_ex l i (y :: ys) (by simp at h ⊢; omega)
    exact ⟨x :: r, by simp [lput, hr]⟩
theorem lsub_mk {α : Type} (l : List α) (i k : Nat) (h : i + k ≤ l.length) : lsub l i k = some ((l.drop i).take k) := by
  unfold lsub
  rw [ltake_eq, ldrop_eq, llen_eq]
  have : ((l.drop i).take k).length = k := by simp; omega
  rw [this]
  simp
theorem okAll_iff : ∀ l : List Val, okAll l = true ↔ ∀ x ∈ l, okCell x = true
  | [] => by simp [okAll]
  | x :: l => by
    cases h : okCell x <;> simp [okAll, h, okAll_iff l]
theorem okAll_drop {l : List Val} (h : okAll l = true) (k : Nat) : okAll (l.drop k) = true :=
  (okAll_iff _).2 fun x hx => (okAll_iff _).1 h x (List.mem_of_mem_drop hx)

/-- what is shifted, and what is laid between -/
theorem ins_cells {cs old new tail c2 c3 : List Val} {o S M N : Nat} (hS : S ≤ N) (hold : lsub cs o N = some old) (hN : o + (N + M) ≤ cs.length) (hnl : new.length = M) (htail : lsub cs (o + S) (N - S) = some tail)
    (h2 : lput cs (o + (S + M)) tail = some c2) (h3 : lput c2 (o + S) new = some c3) : lsub c3 o (N + M) = some (old.take S ++ (new ++ old.drop S)) ∧ c3.length = cs.length := by
  obtain ⟨p1, p2, p3⟩ := lput_some h2
  obtain ⟨q1, q2, q3⟩ := lput_some h3
  obtain ⟨t1, t2⟩ := lsub_some htail
  obtain ⟨u1, u2⟩ := lsub_some hold
  refine ⟨?_, q1.trans p1⟩
  rw [lsub_mk c3 o (N + M) (by omega)]
  congr 1
  apply List.ext_getElem?
  intro j
  by_cases hj : j < N + M
  · rw [List.getElem?_take, if_pos hj, List.getElem?_drop, q3]
    have ho : ∀ k, k < N → old[k]? = cs[o + k]? := fun k hk => lsub_get hold k hk
    by_cases h1 : j < S
    · rw [if_neg (by omega), p3, if_neg (by omega), List.getElem?_append_left (by simp; omega), List.getElem?_take, if_pos h1, ho j (by omega)]
    · rw [List.getElem?_append_right (by simp; omega)]
      have e1 : j - (old.take S).length = j - S := by simp; omega
      rw [e1]
      by_cases h4 : j < S + M
      · rw [if_pos (by omega), List.getElem?_append_left (by omega)]
        congr 1
        omega
      · rw [if_neg (by omega), p3, if_pos (by omega), List.getElem?_append_right (by omega), hnl, List.getElem?_drop, ho _ (by omega)]
        rw [lsub_get htail _ (by omega)]
        congr 1
        omega
  · rw [List.getElem?_take, if_neg hj, List.getElem?_eq_none (by simp; omega)]

/-- .. in a new row -/
theorem ins_new {old old1 new tail zs c1 c2 : List Val} {S M N : Nat} (hS : S ≤ N) (hol : old.length = N) (h1 : old1 = old.take S) (hz : zs.length = N + M - S) (hnl : new.length = M) (htail : tail = old.drop S)
    (h2 : lput (lapp old1 zs) S new = some c1) (h3 : lput c1 (S + M) tail = some c2) : c2 = old.take S ++ (new ++ old.drop S) := by
  obtain ⟨p1, p2, p3⟩ := lput_some h2
  obtain ⟨q1, q2, q3⟩ := lput_some h3
  subst h1; subst htail
  apply List.ext_getElem?
  intro j
  have l0 : (lapp (old.take S) zs).length = N + M := by rw [lapp_eq]; simp; omega
  rw [q3]
  by_cases g1 : j < S
  · rw [if_neg (by omega), p3, if_neg (by omega), lapp_eq, List.getElem?_append_left (by simp; omega), List.getElem?_append_left (by simp; omega)]
  · rw [List.getElem?_append_right (l₁ := old.take S) (by simp; omega)]
    have e1 : j - (old.take S).length = j - S := by simp; omega
    rw [e1]
    by_cases g2 : j < S + M
    · rw [if_neg (by omega), p3, if_pos (by omega), List.getElem?_append_left (by omega)]
    · rw [List.getElem?_append_right (l₁ := new) (by omega), hnl]
      by_cases g3 : j < N + M
      · rw [if_pos (by simp; omega)]
        congr 1
        omega
      · rw [if_neg (by simp; omega), List.getElem?_eq_none (by rw [p1]; omega), List.getElem?_eq_none (by simp; omega)]

theorem rew0 {w : St} {op : RdOp} {a : Tm} {v : Val} {l : List Wat} (h : rewatch w l l) : rewatch w (⟨0, op, a, v⟩ :: l) (⟨0, op, a, v⟩ :: l) := .inl ⟨rfl, rfl, h⟩

/-- what Insert comes to -/
def insK (el s : Nat) (W : St) (b o n cp i m : Nat) (cs old new : List Val) (out : Out) : Prop :=
  ∃ a' W', out = .ret a' W' ∧ ((cp < n + m ∧ a' 6 = .sl W.nx 0 (n + m) none ∧ W' = ⟨upd W.h W.nx (.cells (old.take (i * s) ++ (new ++ old.drop (i * s))) el s true false), W.nx + 1⟩) ∨
    (n + m ≤ cp ∧ a' 6 = .sl b o (n + m) (some cp) ∧ ∃ c3, W' = ⟨upd W.h b (.cells c3 el s false false), W.nx⟩ ∧ lsub c3 o ((n + m) * s) = some (old.take (i * s) ++ (new ++ old.drop (i * s))) ∧ c3.length = cs.length))

end Go.Vx

/- slices.Insert, at elements of two cells or more: the machine V's rules, where the capacity is known. Conditions: none. -/
set_option linter.unusedVariables false
namespace Go.Vx

theorem upd_upd (h : Nat → Blk) (r : Nat) (x y : Blk) : upd (upd h r x) r y = upd h r y := by
  funext j
  by_cases e : j = r
  · subst e; rw [upd_self, upd_self]
  · rw [upd_ne _ _ e, upd_ne _ _ e, upd_ne _ _ e]

section
variable {I : Intr} {p : Nat → Option VF} {a : Tm} {W : St}
theorem seqE {x y : C} {K : Out → Prop} {a1 : Tm} {W1 : St} (h1 : Ev I p x a W (fun o => o = .norm a1 W1)) (h2 : Ev I p y a1 W1 K) : Ev I p (.seq x y) a W K :=
  .seq h1 (fun a' w' e => by cases e; exact h2) (fun i a' w' e => by cases e) (fun a' w' e => by cases e)
theorem seqR {x y : C} {K : Out → Prop} (h1 : Ev I p x a W K) (hn : ∀ a w, ¬ K (.norm a w)) : Ev I p (.seq x y) a W K :=
  .seq h1 (fun a' w' e => absurd e (hn _ _)) (fun i a' w' e => e) (fun a' w' e => e)
theorem ex_eqlF {x y : Opd} {p q : Nat} (hx : x.ev a = .int .i64 (.ofNat p)) (hy : y.ev a = .int .i64 (.ofNat q)) (h : p ≠ q) : PuOp.ex a (.bin .eql x y) = some (.bool false) := by
  rw [ex_eql hx hy, beq_false h]
theorem ex_eqlT {x y : Opd} {p q : Nat} (hx : x.ev a = .int .i64 (.ofNat p)) (hy : y.ev a = .int .i64 (.ofNat q)) (h : p = q) : PuOp.ex a (.bin .eql x y) = some (.bool true) := by
  rw [ex_eql hx hy, h, Nat.beq_refl]
theorem ex_gtrF {x y : Opd} {p q : Nat} (hx : x.ev a = .int .i64 (.ofNat p)) (hy : y.ev a = .int .i64 (.ofNat q)) (h : p ≤ q) : PuOp.ex a (.bin .gtr x y) = some (.bool false) := by
  rw [ex_gtr hx hy, ble_false (by omega)]
theorem ex_gtrT {x y : Opd} {p q : Nat} (hx : x.ev a = .int .i64 (.ofNat p)) (hy : y.ev a = .int .i64 (.ofNat q)) (h : q < p) : PuOp.ex a (.bin .gtr x y) = some (.bool true) := by
  rw [ex_gtr hx hy, Nat.ble_eq_true_of_le (by omega)]
theorem ex_ov {h : Nat → Blk} {s : Nat} {x y : Opd} {b o n b' o' n' : Nat} {q q' : Option Nat} {c c' : List Val} {e e' : Nat} {op op' : Bool} (hx : x.ev a = .sl b o n q) (hy : y.ev a = .sl b' o' n' q') {z z' : Nat} (hb : h b = .cells c e z op false) (hb' : h b' = .cells c' e' z' op' false) (hne : b ≠ b') (hs : 2 ≤ s) (hz : z ≠ 1) (hz' : z' ≠ 1)
    (h1 : n = 0 ∨ o + n * s ≤ c.length) (h2 : n' = 0 ∨ o' + n' * s ≤ c'.length) (h3 : o ≤ c.length) (h4 : o' ≤ c'.length) : RdOp.ex a h (.overl s x y) = some (.bool false) := by
  have k1 : Nat.ble (Nat.add o (Nat.mul n s)) (llen c) = true := by
    apply Nat.ble_eq_true_of_le
    rw [llen_eq]
    show o + n * s ≤ _
    rcases h1 with h | h
    · subst h; omega
    · exact h
  have k2 : Nat.ble (Nat.add o' (Nat.mul n' s)) (llen c') = true := by
    apply Nat.ble_eq_true_of_le
    rw [llen_eq]
    show o' + n' * s ≤ _
    rcases h2 with h | h
    · subst h; omega
    · exact h
  have k3 : Nat.ble 1 s = true := Nat.ble_eq_true_of_le (by omega)
  have k4 := beq_false hz
  have k5 := beq_false hz'
  simp only [RdOp.ex, hx, hy, beq_false hne, cond_false, hb, hb', k1, k2, k3, k4, k5]
  rfl
theorem nrm {a : Tm} {h h' : Nat → Blk} {n : Nat} (e : h = h') : Out.norm a ⟨h, n⟩ = .norm a ⟨h', n⟩ := by rw [e]
theorem seqG {x y : C} {K : Out → Prop} {Q : Tm → Prop} {W1 : St} (h1 : Ev I p x a W (fun o => ∃ a1, o = .norm a1 W1 ∧ Q a1)) (h2 : ∀ a1, Q a1 → Ev I p y a1 W1 K) : Ev I p (.seq x y) a W K :=
  .seq h1 (fun a' w' ⟨a1, e, q⟩ => by cases e; exact h2 _ q) (fun i a' w' ⟨a1, e, q⟩ => by cases e) (fun a' w' ⟨a1, e, q⟩ => by cases e)
end

/-- the slots that Insert goes on with -/
def insQ (x0 : Val) (i n m : Nat) (x2 : Val) (a : Tm) : Prop := a 0 = x0 ∧ a 1 = .int .i64 (.ofNat i) ∧ a 2 = x2 ∧ a 7 = .int .i64 (.ofNat m) ∧ a 8 = .int .i64 (.ofNat n)

/-- there is room: what stands behind is shifted -/
theorem insR_ev (I : Intr) (p : Nat → Option VF) {el s cl : Nat} {W : St} {a : Tm} {b o n cp i vb vo m : Nat} {vcap : Option Nat} {cs vc old new : List Val} {ve vz : Nat} {vop : Bool} (hvz : vz ≠ 1)
    (hb : W.h b = .cells cs el s false false) (hvb : W.h vb = .cells vc ve vz vop false) (hne : b ≠ vb) (hs : 2 ≤ s) (hn : n ≤ cp) (hcp : o + cp * s ≤ cs.length)
    (hold : lsub cs o (n * s) = some old) (hoko : okAll old = true) (hnew : lsub vc vo (m * s) = some new) (hokn : okAll new = true) (hm : 1 ≤ m) (hi : i < n) (hbig : n + m ≤ 1073741824) (hroom : n + m ≤ cp)
    (ha : insQ (.sl b o n (some cp)) i n m (.sl vb vo m vcap) a) : Ev I p (insR s cl) a W (insK el s W b o n cp i m cs old new) := by
  obtain ⟨hol1, hol⟩ := lsub_some hold
  obtain ⟨_, hnl⟩ := lsub_some hnew
  have hms : i * s ≤ n * s := Nat.mul_le_mul_right _ (by omega)
  have hns : n * s ≤ cp * s := Nat.mul_le_mul_right _ hn
  have hm1 : 1 * s ≤ m * s := Nat.mul_le_mul_right _ hm
  have e1 : (i + m) * s = i * s + m * s := Nat.add_mul _ _ _
  have e2 : (n + m) * s = n * s + m * s := Nat.add_mul _ _ _
  have e3 : (n - i) * s = n * s - i * s := Nat.sub_mul _ _ _
  have hvl := lsub_len hnew
  have hno : ∀ a w, ¬ insK el s W b o n cp i m cs old new (.norm a w) := fun a w ⟨a1, W1, e, _⟩ => by cases e
  have hlts : (i + 1) * s ≤ n * s := Nat.mul_le_mul_right _ hi
  have e4 : (i + 1) * s = i * s + s := by rw [Nat.add_mul, Nat.one_mul]
  have htail0 : lsub cs (o + i * s) ((n - i) * s) = some (old.drop (i * s)) := by
    rw [lsub_mk _ _ _ (by omega), hol1, e3]
    congr 1
    rw [List.drop_take, List.drop_drop]
  have hokt := okAll_drop hoko (i * s)
  have hcm : (n + m) * s ≤ cp * s := Nat.mul_le_mul_right _ hroom
  have hims : (i + m + 1) * s ≤ (n + m) * s := Nat.mul_le_mul_right _ (by omega)
  have e5 : (i + m + 1) * s = i * s + m * s + s := by rw [Nat.add_mul, e1, Nat.one_mul]
  have e6 : (n + m - (i + m)) * s = (n + m) * s - (i + m) * s := Nat.sub_mul _ _ _
  obtain ⟨h0, h1, h2, h7, h8⟩ := ha
  unfold insR
  refine seqG (Q := insQ (.sl b o (n + m) (some cp)) i n m (.sl vb vo m vcap)) (W1 := W) (.pu rfl rfl rfl (.pu rfl rfl rfl (.pu rfl rfl rfl (.pu rfl rfl (ex_add (p := n) (q := m) h8 h7 (by omega)) (.rd (v := .sl b o (n + m) (some cp)) rfl rfl (ex_sl0 (k := n + m) h0 rfl hroom (by omega)) (.pu rfl rfl rfl (.nil ⟨_, rfl, rfl, h1, h2, h7, h8⟩))))))) ?_
  clear h0 h1 h2 h7 h8 a
  intro a ⟨h0, h1, h2, h7, h8⟩
  refine seqR (seqG (W1 := W) (Q := fun a => insQ (.sl b o (n + m) (some cp)) i n m (.sl vb vo m vcap) a ∧ a 68 = .bool true) (.pu rfl rfl rfl (.pu rfl rfl rfl (.pu rfl rfl rfl (.pu rfl rfl rfl (.pu rfl rfl (ex_add (p := i) (q := m) h1 h7 (by omega)) (.rd rfl rfl (ex_sl' (l := i + m) (k := n + m) h0 rfl rfl (by omega) hroom (by omega)) (.rd (v := .bool false) rfl rfl ?_ (.pu (v := .bool true) rfl rfl rfl (.nil ⟨_, rfl, ⟨h0, h1, h2, h7, h8⟩, rfl⟩))))))))) ?_) hno
  · exact ex_ov h2 rfl hvb hb (fun e => hne e.symm) hs hvz (by omega) (.inr (by omega)) (.inr (by omega)) (by omega) (by omega)
  clear h0 h1 h2 h7 h8 a
  intro a ⟨⟨h0, h1, h2, h7, h8⟩, h68⟩
  refine .cond true h68 ?_
  show Ev I p (insS s) a W _
  obtain ⟨c2, hc2⟩ := lput_ex cs (o + (i + m) * s) (old.drop (i * s)) (by simp; omega)
  obtain ⟨p1, p2, p3⟩ := lput_some hc2
  obtain ⟨c3, hc3⟩ := lput_ex c2 (o + i * s) new (by omega)
  have hmin : min (n + m - (i + m)) (n + m - i) = n - i := by omega
  unfold insS
  refine seqG (Q := insQ (.sl b o (n + m) (some cp)) i n m (.sl vb vo m vcap)) (W1 := ⟨upd W.h b (.cells c2 el s false false), W.nx⟩) (.dpu rfl rfl rfl (.dpu rfl rfl rfl (.dpu rfl rfl rfl (.dpu rfl rfl (ex_add (p := i) (q := m) h1 h7 (by omega)) (.drd rfl rfl (ex_sl' (l := i + m) (k := n + m) h0 rfl rfl (by omega) hroom (by omega)) (.dpu rfl rfl rfl (.dpu rfl rfl rfl (.drd rfl rfl (ex_sl' (l := i) (k := n + m) h0 (congrArg natOf h1) rfl (by omega) hroom (by omega)) (.def rfl rfl (ex_copy (l := old.drop (i * s)) (cs' := c2) (m := n + m - i) rfl rfl ?_ hb hokt hc2) (rew0 (rew0 trivial)) (.dnil ⟨_, rfl, h0, h1, h2, h7, h8⟩)))))))))) ?_
  · rw [hmin]
    show (match W.h b with | .cells c _ _ _ _ => lsub c (o + i * s) ((n - i) * s) | _ => none) = _
    rw [hb]
    exact htail0
  clear h0 h1 h2 h7 h8 a h68
  intro a ⟨h0, h1, h2, h7, h8⟩
  have hb2 : (upd W.h b (.cells c2 el s false false)) b = .cells c2 el s false false := upd_self _ _ _
  have hvb2 : (upd W.h b (.cells c2 el s false false)) vb = .cells vc ve vz vop false := by rw [upd_ne _ _ (fun e => hne e.symm)]; exact hvb
  have hmin2 : min (n + m - i) m = m := by omega
  refine seqG (Q := insQ (.sl b o (n + m) (some cp)) i n m (.sl vb vo m vcap)) (W1 := ⟨upd W.h b (.cells c3 el s false false), W.nx⟩) (.pu rfl rfl rfl (.pu rfl rfl rfl (.rd rfl rfl (ex_sl' (l := i) (k := n + m) h0 (congrArg natOf h1) rfl (by omega) hroom (by omega)) (.pu rfl rfl rfl (.ef rfl rfl (ex_copy (l := new) (cs' := c3) (m := m) rfl (congrArg lenOf h2) ?_ hb2 hokn hc3) (.nil ⟨_, nrm (upd_upd _ _ _ _), h0, h1, h2, h7, h8⟩)))))) ?_
  · rw [hmin2]
    show firstC _ s m (a 2) = _
    rw [h2]
    show (match (upd W.h b (.cells c2 el s false false)) vb with | .cells c _ _ _ _ => lsub c vo (m * s) | _ => none) = _
    rw [hvb2]
    exact hnew
  clear h0 h1 h2 h7 h8 a
  intro a ⟨h0, h1, h2, h7, h8⟩
  refine seqG (W1 := ⟨upd W.h b (.cells c3 el s false false), W.nx⟩) (Q := fun a => a 6 = .sl b o (n + m) (some cp)) (.pu rfl rfl rfl (.pu rfl rfl rfl (.nil ⟨_, rfl, h0⟩))) ?_
  intro a h6
  obtain ⟨f1, f2⟩ := ins_cells (M := m * s) hms hold (by omega) hnl (by rw [← e3]; exact htail0) (by rw [← e1]; exact hc2) hc3
  exact .ret ⟨_, _, rfl, .inr ⟨hroom, h6, c3, rfl, by rw [e2]; exact f1, f2⟩⟩

end Go.Vx

/- slices.Insert, at elements of two cells or more: the machine V's rules where there is no room, and the whole. Conditions: none. -/
set_option linter.unusedVariables false
namespace Go.Vx

theorem ex_apZ {a : Tm} {h : Nat → Blk} {nx el s by0 : Nat} {z : List Val} {x y : Opd} {b o n c k : Nat} {cs old : List Val} {e sz : Nat} {op ro : Bool} (hx : x.ev a = .sl b o n (some c)) (hy : y.ev a = .int .i64 (.ofNat k)) (hb : h b = .cells cs e sz op ro) (hold : lsub cs o (n * s) = some old) (h1 : c < n + k) (h2 : 1 ≤ k) (h3 : n + k ≤ 1073741824) :
    EfOp.ex a h nx (.appendZ el s by0 z x y) = some ⟨.sl nx 0 (n + k) none, [(nx, .cells (lapp old (lrep k z)) el s true false)], nx + 1⟩ := by
  have q1 : lsub cs o (Nat.mul n s) = some old := hold
  have q2 : Nat.ble (Nat.add n k) c = false := ble_false h1
  have q3 : Nat.ble (Nat.add n k) 1073741824 = true := Nat.ble_eq_true_of_le h3
  have q4 : Nat.ble 1 k = true := Nat.ble_eq_true_of_le h2
  simp only [EfOp.ex, hx, hy, hb, q1, q2, q3, q4, cond_false]
  rfl

theorem insB_ev (I : Intr) (p : Nat → Option VF) {el s by0 : Nat} {z : List Val} {W : St} {a : Tm} {b o n cp i vb vo m : Nat} {vcap : Option Nat} {cs vc old new : List Val} {ve vz : Nat} {vop : Bool} (hvz : vz ≠ 1)
    (hb : W.h b = .cells cs el s false false) (hvb : W.h vb = .cells vc ve vz vop false) (hne : b ≠ vb) (hbx : b ≠ W.nx) (hvx : vb ≠ W.nx) (hs : 2 ≤ s) (hz : z.length = s) (hn : n ≤ cp) (hcp : o + cp * s ≤ cs.length)
    (hold : lsub cs o (n * s) = some old) (hoko : okAll old = true) (hnew : lsub vc vo (m * s) = some new) (hokn : okAll new = true) (hm : 1 ≤ m) (hi : i < n) (hbig : n + m ≤ 1073741824) (hroom : cp < n + m)
    (ha : insQ (.sl b o n (some cp)) i n m (.sl vb vo m vcap) a) : Ev I p (insB el s by0 z) a W (insK el s W b o n cp i m cs old new) := by
  obtain ⟨hol1, hol⟩ := lsub_some hold
  obtain ⟨_, hnl⟩ := lsub_some hnew
  have hms : i * s ≤ n * s := Nat.mul_le_mul_right _ (by omega)
  have hns : n * s ≤ cp * s := Nat.mul_le_mul_right _ hn
  have hm1 : 1 * s ≤ m * s := Nat.mul_le_mul_right _ hm
  have e1 : (i + m) * s = i * s + m * s := Nat.add_mul _ _ _
  have e2 : (n + m) * s = n * s + m * s := Nat.add_mul _ _ _
  have e3 : (n - i) * s = n * s - i * s := Nat.sub_mul _ _ _
  have hlts : (i + 1) * s ≤ n * s := Nat.mul_le_mul_right _ hi
  have e4 : (i + 1) * s = i * s + s := by rw [Nat.add_mul, Nat.one_mul]
  have e6 : (n + m - i) * s = (n + m) * s - i * s := Nat.sub_mul _ _ _
  have hims : (i + m + 1) * s ≤ (n + m) * s := Nat.mul_le_mul_right _ (by omega)
  have e5 : (i + m + 1) * s = i * s + m * s + s := by rw [Nat.add_mul, e1, Nat.one_mul]
  have htail0 : lsub cs (o + i * s) ((n - i) * s) = some (old.drop (i * s)) := by
    rw [lsub_mk _ _ _ (by omega), hol1, e3]
    congr 1
    rw [List.drop_take, List.drop_drop]
  have hokt := okAll_drop hoko (i * s)
  have hold1 : lsub cs o (i * s) = some (old.take (i * s)) := by
    rw [lsub_mk _ _ _ (by omega), hol1]
    congr 1
    rw [List.take_take]
    congr 1
    omega
  obtain ⟨h0, h1, h2, h7, h8⟩ := ha
  have hnm : i + (n + m - i) = n + m := by omega
  generalize hzr : lrep (n + m - i) z = zr
  have hzl : zr.length = n * s + m * s - i * s := by rw [← hzr, lrep_len, hz, e6, e2]
  generalize hc0 : lapp (old.take (i * s)) zr = c0
  have hc0l : c0.length = n * s + m * s := by rw [← hc0, lapp_eq]; simp; omega
  obtain ⟨c1, hc1⟩ := lput_ex c0 (i * s) new (by omega)
  obtain ⟨p1, p2, p3⟩ := lput_some hc1
  obtain ⟨c2, hc2⟩ := lput_ex c1 ((i + m) * s) (old.drop (i * s)) (by simp; omega)
  have hfin := ins_new (M := m * s) hms hol rfl hzl hnl rfl (by rw [hc0]; exact hc1) (by rw [← e1]; exact hc2)
  have hu : ∀ c, (upd W.h W.nx c) W.nx = c := fun c => upd_self _ _ _
  have hub : ∀ c, (upd W.h W.nx c) b = .cells cs el s false false := fun c => by rw [upd_ne _ _ hbx]; exact hb
  have huv : ∀ c, (upd W.h W.nx c) vb = .cells vc ve vz vop false := fun c => by rw [upd_ne _ _ hvx]; exact hvb
  unfold insB
  refine seqG (Q := fun a => insQ (.sl b o n (some cp)) i n m (.sl vb vo m vcap) a ∧ a 9 = .sl W.nx 0 (n + m) none) (W1 := ⟨upd W.h W.nx (.cells c0 el s true false), W.nx + 1⟩)
    (.pu rfl rfl rfl (.pu rfl rfl rfl (.rd rfl rfl (ex_sl0 (k := i) h0 (congrArg natOf h1) (by omega) (by omega)) (.pu rfl rfl rfl (.pu rfl rfl rfl (.pu rfl rfl (ex_add (p := n) (q := m) h8 h7 (by omega)) (.pu rfl rfl rfl (.pu rfl rfl (ex_sub (p := n + m) (q := i) rfl h1 (by omega) (by omega)) (.ef rfl rfl (ex_apZ (k := n + m - i) rfl rfl hb hold1 (by omega) (by omega) (by omega)) (.pu rfl rfl rfl (.nil ⟨_, nrm ?_, ⟨h0, h1, h2, h7, h8⟩, ?_⟩))))))))))) ?_
  · show upd W.h W.nx (.cells (lapp (old.take (i * s)) (lrep (n + m - i) z)) el s true false) = _
    rw [hzr, hc0]
  · show Val.sl W.nx 0 (i + (n + m - i)) none = _
    rw [hnm]
  clear h0 h1 h2 h7 h8 a
  intro a ⟨⟨h0, h1, h2, h7, h8⟩, h9⟩
  have hmin1 : min (n + m - i) m = m := by omega
  refine seqG (Q := fun a => insQ (.sl b o n (some cp)) i n m (.sl vb vo m vcap) a ∧ a 9 = .sl W.nx 0 (n + m) none) (W1 := ⟨upd W.h W.nx (.cells c1 el s true false), W.nx + 1⟩)
    (.pu rfl rfl rfl (.pu rfl rfl rfl (.rd rfl rfl (ex_sn (l := i) (k := n + m) h9 (hu _) (by omega) (congrArg natOf h1) rfl (by omega) (by omega) (by omega)) (.pu rfl rfl rfl (.ef rfl rfl (ex_copy (l := new) (cs' := c1) (m := m) rfl (congrArg lenOf h2) ?_ (hu _) hokn ?_) (.nil ⟨_, nrm (upd_upd _ _ _ _), ⟨h0, h1, h2, h7, h8⟩, h9⟩)))))) ?_
  · rw [hmin1]
    show firstC _ s m (a 2) = _
    rw [h2]
    show (match (upd W.h W.nx (.cells c0 el s true false)) vb with | .cells c _ _ _ _ => lsub c vo (m * s) | _ => none) = _
    rw [huv]
    exact hnew
  · rw [Nat.zero_add]; exact hc1
  clear h0 h1 h2 h7 h8 h9 a
  intro a ⟨⟨h0, h1, h2, h7, h8⟩, h9⟩
  have hmin2 : min (n + m - (i + m)) (n - i) = n - i := by omega
  refine seqG (Q := fun a => a 9 = .sl W.nx 0 (n + m) none) (W1 := ⟨upd W.h W.nx (.cells c2 el s true false), W.nx + 1⟩)
    (.dpu rfl rfl rfl (.dpu rfl rfl rfl (.dpu rfl rfl rfl (.dpu rfl rfl (ex_add (p := i) (q := m) h1 h7 (by omega)) (.drd rfl rfl (ex_sn (l := i + m) (k := n + m) h9 (hu _) (by omega) rfl rfl (by omega) (by omega) (by omega)) (.dpu rfl rfl rfl (.dpu rfl rfl rfl (.drd rfl rfl (ex_sl' (l := i) (k := n) h0 (congrArg natOf h1) rfl (by omega) (by omega) (by omega)) (.def rfl rfl (ex_copy (l := old.drop (i * s)) (cs' := c2) (m := n - i) rfl rfl ?_ (hu _) hokt ?_) (rew0 (rew0 trivial)) (.dnil ⟨_, nrm (upd_upd _ _ _ _), h9⟩)))))))))) ?_
  · rw [hmin2]
    show (match (upd W.h W.nx (.cells c1 el s true false)) b with | .cells c _ _ _ _ => lsub c (o + i * s) ((n - i) * s) | _ => none) = _
    rw [hub]
    exact htail0
  · rw [Nat.zero_add]; exact hc2
  clear h0 h1 h2 h7 h8 h9 a
  intro a h9
  refine seqG (Q := fun a => a 6 = .sl W.nx 0 (n + m) none) (W1 := ⟨upd W.h W.nx (.cells c2 el s true false), W.nx + 1⟩) (.pu rfl rfl rfl (.pu rfl rfl rfl (.nil ⟨_, rfl, h9⟩))) ?_
  intro a h6
  exact .ret ⟨_, _, rfl, .inl ⟨hroom, h6, by rw [← hfin]⟩⟩

theorem ins_ev (I : Intr) (p : Nat → Option VF) {el s by0 cl : Nat} {z : List Val} {W : St} {b o n cp i vb vo m : Nat} {vcap : Option Nat} {cs vc old new : List Val} {ve vz : Nat} {vop : Bool} (hvz : vz ≠ 1)
    (hb : W.h b = .cells cs el s false false) (hvb : W.h vb = .cells vc ve vz vop false) (hne : b ≠ vb) (hbx : b ≠ W.nx) (hvx : vb ≠ W.nx) (hs : 2 ≤ s) (hz : z.length = s) (hn : n ≤ cp) (hcp : o + cp * s ≤ cs.length)
    (hold : lsub cs o (n * s) = some old) (hoko : okAll old = true) (hnew : lsub vc vo (m * s) = some new) (hokn : okAll new = true) (hm : 1 ≤ m) (hi : i ≤ n) (hbig : n + m ≤ 1073741824) :
    Ev I p (insC el s by0 z cl) (enter [.sl b o n (some cp), .int .i64 (.ofNat i), .sl vb vo m vcap]) W (insK el s W b o n cp i m cs old new) := by
  obtain ⟨hol1, hol⟩ := lsub_some hold
  obtain ⟨_, hnl⟩ := lsub_some hnew
  have hns : n * s ≤ cp * s := Nat.mul_le_mul_right _ hn
  have hm1 : 1 * s ≤ m * s := Nat.mul_le_mul_right _ hm
  have hvl := lsub_len hnew
  have hno : ∀ a w, ¬ insK el s W b o n cp i m cs old new (.norm a w) := fun a w ⟨a1, W1, e, _⟩ => by cases e
  have hq : insQ (.sl b o n (some cp)) i n m (.sl vb vo m vcap) (setT (setT (enter [.sl b o n (some cp), .int .i64 (.ofNat i), .sl vb vo m vcap]) 7 (.int .i64 (.ofNat m))) 8 (.int .i64 (.ofNat n))) := ⟨rfl, rfl, rfl, rfl, rfl⟩
  unfold insC
  refine seqE (.pu rfl rfl rfl (.nil rfl)) ?_
  refine seqE (.pu rfl rfl rfl (.pu rfl rfl rfl (.rd rfl rfl (ex_sl rfl rfl rfl hi hn) (.nil rfl)))) ?_
  refine seqE (.pu rfl rfl rfl (.pu rfl rfl rfl (.pu rfl rfl rfl (.nil rfl)))) ?_
  refine seqE (seqE (.pu rfl rfl rfl (.pu rfl rfl (ex_eqlF (p := m) (q := 0) rfl rfl (by omega)) (.nil rfl))) (.cond false rfl (.skip rfl))) ?_
  refine seqG (W1 := W) (Q := insQ (.sl b o n (some cp)) i n m (.sl vb vo m vcap)) (.pu rfl rfl rfl (.pu rfl rfl rfl (.pu rfl rfl rfl (.nil ⟨_, rfl, rfl, rfl, rfl, rfl, rfl⟩)))) ?_
  intro a ⟨h0, h1, h2, h7, h8⟩
  have hlen : lenOf (.sl vb vo m vcap) = some m := rfl
  have hfc : firstC W.h s m (.sl vb vo m vcap) = some new := by simp only [firstC, hvb]; exact hnew
  by_cases hin : i = n
  · subst hin
    have hdrop : old.drop (i * s) = [] := List.drop_eq_nil_of_le (by omega)
    have htake : old.take (i * s) = old := List.take_of_length_le (by omega)
    refine seqR (seqG (W1 := W) (Q := fun a => insQ (.sl b o i (some cp)) i i m (.sl vb vo m vcap) a ∧ a 22 = .bool true) (.pu rfl rfl rfl (.pu rfl rfl rfl (.pu rfl rfl (ex_eqlT (p := i) (q := i) h1 h8 rfl) (.nil ⟨_, rfl, ⟨h0, h1, h2, h7, h8⟩, rfl⟩)))) ?_) hno
    clear h0 h1 h2 h7 h8 a
    intro a ⟨⟨h0, h1, h2, h7, h8⟩, h22⟩
    refine .cond true h22 ?_
    by_cases hroom : i + m ≤ cp
    · have hcm : (i + m) * s ≤ cp * s := Nat.mul_le_mul_right _ hroom
      have e2 : (i + m) * s = i * s + m * s := Nat.add_mul _ _ _
      obtain ⟨c3, hc3⟩ := lput_ex cs (o + i * s) new (by omega)
      obtain ⟨p1, p2, p3⟩ := lput_some hc3
      have happ : appendV W.h W.nx el s (a 0) (a 2) = some ⟨.sl b o (i + m) (some cp), [(b, .cells c3 el s false false)], W.nx⟩ := by
        rw [h0, h2]
        simp only [appendV, hlen, hfc, hokn, hb, cond_true, cond_false]
        have hq : lsub cs o (Nat.mul i s) = some old := hold
        have hq2 : lput cs (Nat.add o (Nat.mul i s)) new = some c3 := hc3
        have hq3 : Nat.ble (Nat.add i m) cp = true := Nat.ble_eq_true_of_le hroom
        simp only [hq, hq2, hq3, cond_true]
        rfl
      refine seqG (Q := fun a => a 6 = .sl b o (i + m) (some cp)) (W1 := ⟨upd W.h b (.cells c3 el s false false), W.nx⟩) (.pu rfl rfl rfl (.pu rfl rfl rfl (.ef rfl rfl happ (.pu rfl rfl rfl (.nil ⟨_, rfl, rfl⟩))))) ?_
      intro a h6
      refine .ret ⟨_, _, rfl, .inr ⟨hroom, h6, c3, rfl, ?_, p1⟩⟩
      rw [hdrop, htake, List.append_nil]
      rw [lsub_mk c3 o _ (by omega)]
      congr 1
      apply List.ext_getElem?
      intro j
      by_cases hj : j < (i + m) * s
      · rw [List.getElem?_take, if_pos hj, List.getElem?_drop, p3]
        by_cases h1 : j < i * s
        · rw [if_neg (by omega), List.getElem?_append_left (by omega), lsub_get hold j h1]
        · rw [if_pos (by omega), List.getElem?_append_right (by omega)]
          congr 1
          omega
      · rw [List.getElem?_take, if_neg hj, List.getElem?_eq_none (by simp; omega)]
    · have happ : appendV W.h W.nx el s (a 0) (a 2) = some ⟨.sl W.nx 0 (i + m) none, [(W.nx, .cells (lapp old new) el s true false)], W.nx + 1⟩ := by
        rw [h0, h2]
        simp only [appendV, hlen, hfc, hokn, hb, cond_true]
        have hq : lsub cs o (Nat.mul i s) = some old := hold
        have hq3 : Nat.ble (Nat.add i m) cp = false := ble_false (by show cp < i + m; omega)
        have hq4 : Nat.ble (Nat.add i m) 1073741824 = true := Nat.ble_eq_true_of_le hbig
        simp only [hq, hq3, hq4, cond_true, cond_false]
        rfl
      refine seqG (Q := fun a => a 6 = .sl W.nx 0 (i + m) none) (W1 := ⟨upd W.h W.nx (.cells (lapp old new) el s true false), W.nx + 1⟩) (.pu rfl rfl rfl (.pu rfl rfl rfl (.ef rfl rfl happ (.pu rfl rfl rfl (.nil ⟨_, rfl, rfl⟩))))) ?_
      intro a h6
      refine .ret ⟨_, _, rfl, .inl ⟨by omega, h6, ?_⟩⟩
      rw [hdrop, htake, List.append_nil, ← lapp_eq]
  · have hlt : i < n := by omega
    refine seqG (W1 := W) (Q := insQ (.sl b o n (some cp)) i n m (.sl vb vo m vcap)) (seqG (W1 := W) (Q := fun a => insQ (.sl b o n (some cp)) i n m (.sl vb vo m vcap) a ∧ a 22 = .bool false) (.pu rfl rfl rfl (.pu rfl rfl rfl (.pu rfl rfl (ex_eqlF (p := i) (q := n) h1 h8 hin) (.nil ⟨_, rfl, ⟨h0, h1, h2, h7, h8⟩, rfl⟩)))) (fun a ⟨h, h22⟩ => .cond false h22 (.skip ⟨_, rfl, h⟩))) ?_
    clear h0 h1 h2 h7 h8 a
    intro a ⟨h0, h1, h2, h7, h8⟩
    by_cases hroom : n + m ≤ cp
    · refine seqG (W1 := W) (Q := insQ (.sl b o n (some cp)) i n m (.sl vb vo m vcap)) (seqG (W1 := W) (Q := fun a => insQ (.sl b o n (some cp)) i n m (.sl vb vo m vcap) a ∧ a 31 = .bool false) (.pu rfl rfl rfl (.pu rfl rfl rfl (.pu rfl rfl (ex_add (p := n) (q := m) h8 h7 (by omega)) (.pu rfl rfl rfl (.pu (v := .int .i64 (.ofNat cp)) rfl rfl ?_ (.pu rfl rfl (ex_gtrF (p := n + m) (q := cp) rfl rfl hroom) (.nil ⟨_, rfl, ⟨h0, h1, h2, h7, h8⟩, rfl⟩))))))) (fun a ⟨h, h31⟩ => .cond false h31 (.skip ⟨_, rfl, h⟩))) ?_
      · show (match a 0 with | .nils => _ | .sl _ _ _ (some c) => some (Val.int .i64 (.ofNat c)) | _ => none) = _
        rw [h0]
      intro a ha
      exact insR_ev I p hvz hb hvb hne hs hn hcp hold hoko hnew hokn hm hlt hbig hroom ha
    · refine seqR (seqG (W1 := W) (Q := fun a => insQ (.sl b o n (some cp)) i n m (.sl vb vo m vcap) a ∧ a 31 = .bool true) (.pu rfl rfl rfl (.pu rfl rfl rfl (.pu rfl rfl (ex_add (p := n) (q := m) h8 h7 (by omega)) (.pu rfl rfl rfl (.pu (v := .int .i64 (.ofNat cp)) rfl rfl ?_ (.pu rfl rfl (ex_gtrT (p := n + m) (q := cp) rfl rfl (by omega)) (.nil ⟨_, rfl, ⟨h0, h1, h2, h7, h8⟩, rfl⟩))))))) (fun a ⟨h, h31⟩ => .cond true h31 ?_)) hno
      · show (match a 0 with | .nils => _ | .sl _ _ _ (some c) => some (Val.int .i64 (.ofNat c)) | _ => none) = _
        rw [h0]
      exact insB_ev I p hvz hb hvb hne hbx hvx hs hz hn hcp hold hoko hnew hokn hm hlt hbig (by omega) h

/-- .. at a nil slice -/
theorem ins_nil (I : Intr) (p : Nat → Option VF) {el s by0 cl : Nat} {z : List Val} {W : St} {vb vo m : Nat} {vcap : Option Nat} {vc new : List Val} {ve vz : Nat} {vop ro : Bool}
    (hvb : W.h vb = .cells vc ve vz vop ro) (hnew : lsub vc vo (m * s) = some new) (hokn : okAll new = true) (hm : 1 ≤ m) (hbig : m ≤ 1073741824) :
    Ev I p (insC el s by0 z cl) (enter [.nils, .int .i64 (.ofNat 0), .sl vb vo m vcap]) W (fun out => ∃ a', out = .ret a' ⟨upd W.h W.nx (.cells new el s true false), W.nx + 1⟩ ∧ a' 6 = .sl W.nx 0 m none) := by
  have hlen : lenOf (.sl vb vo m vcap) = some m := rfl
  have hfc : firstC W.h s m (.sl vb vo m vcap) = some new := by simp only [firstC, hvb]; exact hnew
  unfold insC
  refine seqE (.pu rfl rfl rfl (.nil rfl)) ?_
  refine seqE (.pu rfl rfl rfl (.pu rfl rfl rfl (.rd (v := .nils) rfl rfl rfl (.nil rfl)))) ?_
  refine seqE (.pu rfl rfl rfl (.pu rfl rfl rfl (.pu rfl rfl rfl (.nil rfl)))) ?_
  refine seqE (seqE (.pu rfl rfl rfl (.pu rfl rfl (ex_eqlF (p := m) (q := 0) rfl rfl (by omega)) (.nil rfl))) (.cond false rfl (.skip rfl))) ?_
  refine seqG (W1 := W) (Q := insQ .nils 0 0 m (.sl vb vo m vcap)) (.pu rfl rfl rfl (.pu rfl rfl rfl (.pu rfl rfl rfl (.nil ⟨_, rfl, rfl, rfl, rfl, rfl, rfl⟩)))) ?_
  intro a ⟨h0, h1, h2, h7, h8⟩
  refine seqR (seqG (W1 := W) (Q := fun a => insQ .nils 0 0 m (.sl vb vo m vcap) a ∧ a 22 = .bool true) (.pu rfl rfl rfl (.pu rfl rfl rfl (.pu rfl rfl (ex_eqlT (p := 0) (q := 0) h1 h8 rfl) (.nil ⟨_, rfl, ⟨h0, h1, h2, h7, h8⟩, rfl⟩)))) ?_) (fun a w ⟨a1, e, _⟩ => by cases e)
  clear h0 h1 h2 h7 h8 a
  intro a ⟨⟨h0, h1, h2, h7, h8⟩, h22⟩
  refine .cond true h22 ?_
  have happ : appendV W.h W.nx el s (a 0) (a 2) = some ⟨.sl W.nx 0 m none, [(W.nx, .cells new el s true false)], W.nx + 1⟩ := by
    rw [h0, h2]
    have q1 : Nat.beq m 0 = false := beq_false (by omega)
    have q2 : Nat.ble m 1073741824 = true := Nat.ble_eq_true_of_le hbig
    simp only [appendV, hlen, hfc, hokn, q1, q2, cond_true, cond_false]
  refine seqG (Q := fun a => a 6 = .sl W.nx 0 m none) (W1 := ⟨upd W.h W.nx (.cells new el s true false), W.nx + 1⟩) (.pu rfl rfl rfl (.pu rfl rfl rfl (.ef rfl rfl happ (.pu rfl rfl rfl (.nil ⟨_, rfl, rfl⟩))))) ?_
  intro a h6
  exact .ret ⟨_, rfl, h6⟩

end Go.Vx

/- slices.Insert, at elements of two cells or more: what the machine V takes it for, it does. Conditions: the function's text is the given one. -/
set_option linter.unusedVariables false
set_option linter.unusedSimpArgs false
namespace Go.Vx

theorem lsub_app {α : Type} {l m r : List α} {i n : Nat} (h : lsub l i n = some r) : lsub (l ++ m) i n = some r := by
  obtain ⟨h1, h2⟩ := lsub_some h
  rcases lsub_len h with h0 | h0
  · subst h0
    have : r = [] := List.length_eq_zero_iff.1 h2
    subst this
    unfold lsub
    rw [ltake_eq, llen_eq]
    simp
  · rw [lsub_mk _ _ _ (by simp; omega), h1]
    congr 1
    rw [List.drop_append_of_le_length (by omega), List.take_append_of_le_length (by simp; omega)]

section
variable {P : Program} {B0 : Nat} {β : Bm} {W : St} {w : World}

/-- cells that are not known are told as such -/
theorem Sim.refine (hr : Rel B0 β W w) {b : Nat} {L : Loc} (hL : β b = some L) {c : List Val} {e s : Nat} {op : Bool} (hb : W.h b = .cells c e s op false) :
    Sim B0 β W w β ⟨upd W.h b (.cells (c ++ List.replicate (L.ext - c.length) .undef) e s false false), W.nx⟩ w := by
  have key : ∀ b', (upd W.h b (.cells (c ++ List.replicate (L.ext - c.length) .undef) e s false false) b').live → (W.h b').live := fun b' h => by
    by_cases h1 : b' = b
    · subst h1; rw [hb]; trivial
    · rwa [upd_ne _ _ h1] at h
  have keyw : ∀ b', (upd W.h b (.cells (c ++ List.replicate (L.ext - c.length) .undef) e s false false) b').wr → (W.h b').wr := fun b' h => by
    by_cases h1 : b' = b
    · subst h1; rw [hb]; rfl
    · rwa [upd_ne _ _ h1] at h
  refine ⟨⟨hr.low, hr.fresh, fun b' L' h' => ?_, fun b1 b2 L1 L2 hne h1 h2 l1 l2 => hr.dis b1 b2 L1 L2 hne h1 h2 (key _ l1) (key _ l2)⟩, Bm.le_refl β, Nat.le_refl _, fun b' _ hn => ⟨hn, ?_⟩, Nat.le_refl _, fun b' L' h' hw => .inr ⟨b', L', h', keyw _ hw, rfl, Nat.le_refl _, Nat.le_refl _⟩, fun R cs e fz h => ⟨cs, h, rfl, fun _ _ => rfl⟩, fun _ _ h _ => h, rfl, rfl, rfl⟩
  · show BR _ _ _ _ (upd W.h b _ b')
    by_cases h1 : b' = b
    · subst h1
      rw [hL] at h'
      cases h'
      rw [upd_self]
      have hbr := hr.blk b' L hL
      rw [hb] at hbr
      obtain ⟨cs, fz, g1, g2, g3, g4, g5, g6, g7⟩ := hbr
      refine ⟨cs, fz, g1, g2, g3, by simp; omega, fun _ => by simp; omega, fun i v hi => ?_, g7⟩
      by_cases hlt : i < c.length
      · rw [List.getElem?_append_left hlt] at hi
        exact g6 i v hi
      · rw [List.getElem?_append_right (by omega), List.getElem?_replicate] at hi
        split at hi
        · cases hi
          refine ⟨cs[L.base + i]'(by omega), Array.getElem?_eq_getElem (by omega), .undef _⟩
        · cases hi
    · rw [upd_ne _ _ h1]
      exact hr.blk b' L' h'
  · have : b' ≠ b := fun e => by subst e; rw [hL] at hn; cases hn
    exact upd_ne _ _ this

theorem within_refl (w : World) (R lo hi : Nat) : Within w w R lo hi := ⟨rfl, fun _ _ => rfl, fun cs e fz h => ⟨cs, h, rfl, fun _ _ => rfl⟩, rfl, rfl, rfl⟩

theorem upd_comm (h : Nat → Blk) {r q : Nat} (x y : Blk) (hne : r ≠ q) : upd (upd h r x) q y = upd (upd h q y) r x := by
  funext j
  by_cases e : j = r
  · subst e; rw [upd_self, upd_ne _ _ hne, upd_self]
  · by_cases e2 : j = q
    · subst e2; rw [upd_self, upd_ne _ _ e, upd_self]
    · rw [upd_ne _ _ e2, upd_ne _ _ e, upd_ne _ _ e, upd_ne _ _ e2]

theorem ins_ok {p : Nat → Option VF} (hp : ∀ f vf, p f = some vf → fnC P f = some vf) (hm : P.follows .mixedOrders = true) {f el s by0 cl : Nat} {z : List Val} {vf : VF} (hpf : p f = some vf) (hbody : vf.body = insC el s by0 z cl) (hres : vf.res = [(6, none)]) (hz : z.length = s) (hs : 2 ≤ s)
    (hrel : Rel B0 β W w) {xs : List Val} {args : Array Value} (hx : VRs β xs args.toList) {ef : Ef} (h : insV s el xs W.h W.nx = some ef) :
    Calls P f args w fun q w' => ∃ β' u, q = .returned u ∧ VR β' ef.v u ∧ Sim B0 β W w β' (W.eff ef) w' := by
  have hI : IOk P B0 (fun _ _ _ _ => False) := fun _ _ _ _ h => h.elim
  have hrv : ∀ (h : Nat → Blk) (a : Tm), resultsV vf h a = some (a 6) := fun h a => by
    unfold resultsV
    rw [hres]
    rfl
  unfold insV at h
  split at h
  case h_2 => cases h
  rename_i s0 i vb vo vn vcap
  split at h
  case h_2 => cases h
  rename_i vc ve vz vop vro hvb
  rw [lsubR_eq] at h
  split at h
  case h_2 => cases h
  rename_i new hnew
  rw [okAllR_eq] at h
  cases hc : (Nat.ble 1 vn && okAll new && !vro && !Nat.beq vz 1) with
  | false => rw [hc] at h; cases h
  | true =>
    rw [hc] at h
    simp only [cond_true] at h
    simp only [Bool.and_eq_true, Bool.not_eq_true'] at hc
    obtain ⟨⟨⟨c1, hokn⟩, c3⟩, c4⟩ := hc
    subst c3
    have hvn := Nat.le_of_ble_eq_true c1
    have hvz : vz ≠ 1 := fun e => by subst e; simp at c4
    cases args with | mk la =>
    cases hx with | cons _ u1 _ l1 h1 hx =>
    cases hx with | cons _ u2 _ l2 h2 hx =>
    cases hx with | cons _ u3 _ l3 h3 hx =>
    cases hx
    split at h
    case h_3 => cases h
    · cases hc : (Nat.beq i 0 && Nat.ble vn 1073741824) with
      | false => rw [hc] at h; cases h
      | true =>
        rw [hc] at h
        simp only [cond_true, Option.some.injEq] at h
        subst h
        simp only [Bool.and_eq_true] at hc
        obtain ⟨d1, d2⟩ := hc
        have := Nat.eq_of_beq_eq_true d1
        subst this
        have hev := ins_nil (fun _ _ _ _ => False) p (el := el) (s := s) (by0 := by0) (cl := cl) (z := z) (W := W) (vcap := vcap) hvb hnew hokn hvn (Nat.le_of_ble_eq_true d2)
        rw [← hbody] at hev
        refine (ev_calls hp hm hI hpf hev (fun a _ => a 6) (fun a' w' _ => hrv _ _) (fun i a' w' ⟨a1, e, _⟩ => by cases e) (VRs.cons _ _ _ _ h1 (.cons _ _ _ _ h2 (.cons _ _ _ _ h3 .nil))) hrel).mono ?_
        rintro q w' ⟨a', W', β', u, rfl, hk, hu, hsim⟩
        rcases hk with ⟨a1, e, h6⟩ | ⟨a1, e, h6⟩
        · cases e
        · cases e
          rw [h6] at hu
          exact ⟨β', u, rfl, hu, hsim⟩
    · rename_i b o n cap
      cases hne : Nat.beq b vb with
      | true => rw [hne] at h; cases h
      | false =>
        rw [hne] at h
        simp only [cond_false] at h
        have hne' : b ≠ vb := fun e => by subst e; simp at hne
        split at h
        case h_2 => cases h
        rename_i c e z1 op ro hb
        cases hc : (Nat.beq z1 s && Nat.beq e el && !ro && Nat.ble i n && Nat.ble (Nat.add n vn) 1073741824 && capFit o n s c cap) with
        | false => rw [hc] at h; cases h
        | true =>
          rw [hc] at h
          simp only [cond_true, lsubR_eq, okAllR_eq, lappR_eq, ltakeR_eq, ldropR_eq, ltake_eq, ldrop_eq, lapp_eq] at h
          simp only [Bool.and_eq_true, Bool.not_eq_true'] at hc
          obtain ⟨⟨⟨⟨⟨d1, d2⟩, d3⟩, d4⟩, d5⟩, d6⟩ := hc
          subst d3
          have := Nat.eq_of_beq_eq_true d1
          subst this
          have := Nat.eq_of_beq_eq_true d2
          subst this
          have hi := Nat.le_of_ble_eq_true d4
          have hbig : n + vn ≤ 1073741824 := Nat.le_of_ble_eq_true d5
          split at h
          case h_2 => cases h
          rename_i old hold
          cases hoko : okAll old with
          | false => rw [hoko] at h; cases h
          | true =>
            rw [hoko] at h
            simp only [cond_true, Option.some.injEq] at h
            subst h
            have hold' : lsub c o (n * z1) = some old := hold
            obtain ⟨L, cp, hL, rfl, hcap⟩ := VR.sl_inv h1 rfl
            have hbr := hrel.blk b L hL
            rw [hb] at hbr
            obtain ⟨cs0, fz0, g1, g2, g3, g4, g5, g6, g7⟩ := hbr
            have hfit : n ≤ cp ∧ o + cp * z1 ≤ L.ext := by
              rcases hcap with rfl | ⟨rfl, he⟩
              · simp only [capFit, Bool.and_eq_true, llenR_eq, llen_eq] at d6
                have h1 := Nat.le_of_ble_eq_true d6.1
                have h2 : o + cp * z1 ≤ c.length := Nat.le_of_ble_eq_true d6.2
                omega
              · rw [g3] at he
                refine ⟨?_, by omega⟩
                rcases lsub_len hold' with h0 | h0
                · rcases Nat.mul_eq_zero.1 h0 with h0 | h0 <;> omega
                · have : n * z1 ≤ cp * z1 := by omega
                  exact Nat.le_of_mul_le_mul_right this (by omega)
            have hbx : b ≠ W.nx := fun e => by subst e; rw [hrel.fresh _ (Nat.le_refl _)] at hL; cases hL
            have hvx : vb ≠ W.nx := fun e => by
              subst e
              obtain ⟨L3, _, hL3, _⟩ := VR.sl_inv h3 rfl
              rw [hrel.fresh _ (Nat.le_refl _)] at hL3; cases hL3
            have hsim0 := Sim.refine hrel hL hb
            generalize hcs : c ++ List.replicate (L.ext - c.length) .undef = cs at hsim0
            have hcl : cs.length = L.ext := by rw [← hcs]; simp; omega
            have hold1 : lsub cs o (n * z1) = some old := by rw [← hcs]; exact lsub_app hold'
            have hev := ins_ev (fun _ _ _ _ => False) p (el := e) (s := z1) (by0 := by0) (cl := cl) (z := z) (W := ⟨upd W.h b (.cells cs e z1 false false), W.nx⟩) (vcap := vcap) (cp := cp) (i := i) hvz (upd_self _ _ _) ((upd_ne _ _ (fun e => hne' e.symm)).trans hvb) hne' hbx hvx hs hz hfit.1 (by omega) hold1 hoko hnew hokn hvn hi hbig
            rw [← hbody] at hev
            refine (ev_calls hp hm hI hpf hev (fun a _ => a 6) (fun a' w' _ => hrv _ _) (fun i a' w' ⟨a1, W1, e, _⟩ => by cases e) (VRs.cons _ _ _ _ (.slx b o n cp L hL) (.cons _ _ _ _ h2 (.cons _ _ _ _ h3 .nil))) hsim0.rel).mono ?_
            rintro q w' ⟨a', W', β', u, rfl, hk, hu, hsim⟩
            rcases hk with ⟨a1, W1, e1, _⟩ | ⟨a1, W1, e1, hk⟩
            · cases e1
            · cases e1
              have hL' := hsim.le b L hL
              rcases hk with ⟨k1, k2, rfl⟩ | ⟨k1, k2, c3, rfl, k3, k4⟩
              · rw [k2] at hu
                have hkill := Sim.kill hsim.rel hL'
                refine ⟨β', u, rfl, hu, ?_⟩
                have := (hsim0.trans hsim).trans hkill
                have e2 : upd (upd (upd W.h b (.cells cs e z1 false false)) W.nx (.cells (old.take (i * z1) ++ (new ++ old.drop (i * z1))) e z1 true false)) b .dead = upd (upd W.h b .dead) W.nx (.cells (old.take (i * z1) ++ (new ++ old.drop (i * z1))) e z1 true false) := by
                  rw [upd_comm _ _ _ (fun e => hbx e.symm), upd_upd]
                show Sim B0 β W w β' ⟨upd (upd W.h b .dead) W.nx (.cells (old.take (i * z1) ++ (new ++ old.drop (i * z1))) e z1 true false), W.nx + 1⟩ w'
                rw [← e2]
                exact this
              · rw [k2] at hu
                obtain ⟨L4, cp4, hL4, rfl, hcp4⟩ := VR.sl_inv hu rfl
                rw [hL'] at hL4
                cases hL4
                rcases hcp4 with e3 | ⟨e3, _⟩
                case inr => cases e3
                cases e3
                have hbr' := hsim.rel.blk b L hL'
                have hnx' := hsim.rel.fresh W.nx (Nat.le_refl _)
                change BR B0 β' L w'.heap (upd (upd W.h b (.cells cs e z1 false false)) b (.cells c3 e z1 false false) b) at hbr'
                rw [upd_self] at hbr'
                obtain ⟨cs4, fz4, f1, f2, f3, f4, f5, f6, f7⟩ := hbr'
                have hle := Bm.add_le (⟨L.r, L.base + o, cp * z1, z1⟩ : Loc) hnx'
                have htl := (lsub_some k3).2
                have hmul : (n + vn) * z1 ≤ cp * z1 := Nat.mul_le_mul_right _ k1
                have hturn := Sim.turn (L1 := ⟨L.r, L.base + o, cp * z1, z1⟩) (w' := w') hsim.rel hL' (by show (upd _ b _ b).wr; rw [upd_self]; rfl) (.cells (old.take (i * z1) ++ (new ++ old.drop (i * z1))) e z1 true false) (within_refl _ _ _ _) (.inl ⟨_, _, _, f1⟩) rfl (by show L.base ≤ L.base + o; omega) (by show L.base + o + cp * z1 ≤ L.base + L.ext; omega)
                  ⟨cs4, fz4, f1, by show L.base + o + cp * z1 ≤ _; omega, rfl, by show _ ≤ cp * z1; omega, fun h => (by cases h), fun j v hj => (by
                    have hjl : j < (n + vn) * z1 := by
                      rcases Nat.lt_or_ge j (old.take (i * z1) ++ (new ++ old.drop (i * z1))).length with h' | h'
                      · omega
                      · rw [List.getElem?_eq_none h'] at hj; cases hj
                    rw [lsub_get k3 j hjl] at hj
                    obtain ⟨u, hu, hv⟩ := f6 _ v hj
                    exact ⟨u, by show cs4[L.base + o + j]? = _; rw [Nat.add_assoc]; exact hu, hv.mono hle⟩), fun _ => (by
                    obtain ⟨j1, j2, j3⟩ := f7 rfl
                    refine ⟨j1, ?_, j3⟩
                    show L.base + o + cp * z1 ≤ fz4.1 ∨ fz4.2 ≤ L.base + o
                    omega)⟩
                refine ⟨β'.add W.nx ⟨L.r, L.base + o, cp * z1, z1⟩, _, rfl, .slo W.nx 0 (n + vn) cp ⟨L.r, L.base + o, cp * z1, z1⟩ (Bm.add_self _ _ _) (by show 0 + cp * z1 = cp * z1; omega), ?_⟩
                have := (hsim0.trans hsim).trans hturn
                have e2 : upd (upd (upd (upd W.h b (.cells cs e z1 false false)) b (.cells c3 e z1 false false)) b .dead) W.nx (.cells (old.take (i * z1) ++ (new ++ old.drop (i * z1))) e z1 true false) = upd (upd W.h b .dead) W.nx (.cells (old.take (i * z1) ++ (new ++ old.drop (i * z1))) e z1 true false) := by
                  rw [upd_upd, upd_upd]
                show Sim B0 β W w (β'.add W.nx ⟨L.r, L.base + o, cp * z1, z1⟩) ⟨upd (upd W.h b .dead) W.nx (.cells (old.take (i * z1) ++ (new ++ old.drop (i * z1))) e z1 true false), W.nx + 1⟩ w'
                rw [← e2]
                exact this

end
end Go.Vx

/- Calls that only add to memory; a remainder made non-negative: known beside their text. Conditions: the functions' compiled form is the given one. -/
set_option linter.unusedVariables false
namespace Go.Vx
section
variable {P : Program} {ik : Nat → Option (List Val → (Nat → Blk) → Nat → Option Ef)} {p : Nat → Option VF}

/-- a call without arguments that was run alone, and came to a bool: it changes nothing that was there -/
def closedI (f : Nat) (b : Bool) : Intr := fun g xs W K => g = f ∧ xs = [] ∧ K (.bool b) W

theorem closed_ok (hp : ∀ f vf, p f = some vf → fnC P f = some vf) (hm : P.follows .mixedOrders = true) (hI : ∀ B0, IOk P B0 (IK ik)) {n f nx' : Nat} {h' : HH} {b : Bool} (e : runK ik p n f [] H0 0 = .val (.bool b) h' nx') (hen : Enterable P f) (B0 : Nat) : IOk P B0 (closedI f b) := by
  rintro g xs W K ⟨rfl, rfl, hk⟩
  refine ⟨hen, fun β w args hx hrel => ?_⟩
  cases args with | mk la =>
  cases hx
  refine (run_calls0 hp hm hI e (args := #[]) .nil).mono ?_
  rintro q w' ⟨u, β', rfl, hu, hs⟩
  cases hu
  exact ⟨_, _, β, _, rfl, hk, .bool b, Sim.grown hrel (fun R o h => Sim.old hs h) hs.size hs.tape hs.os hs.output⟩

/-- within: a number from 0 to k - 1 -/
def withinI (f : Nat) : Intr := fun g xs W K => g = f ∧ ∃ x k, xs = [.int .i64 x, .int .i64 (.ofNat k)] ∧ 0 < k ∧ k < 1000 ∧ ∀ r, r < k → K (.int .i64 (.ofNat r)) W

theorem within_ok (hp : ∀ f vf, p f = some vf → fnC P f = some vf) (hm : P.follows .mixedOrders = true) {f : Nat} {vf : VF} (hpf : p f = some vf) (hb : vf.body = wiC) (hres : vf.res = [(4, none)]) (B0 : Nat) : IOk P B0 (withinI f) := by
  rintro g xs W K ⟨rfl, x, k, rfl, h0, h1, hk⟩
  refine ⟨enterable_of (hp _ _ hpf), fun β w args hx hrel => ?_⟩
  have hI : IOk P B0 (fun _ _ _ _ => False) := fun _ _ _ _ h => h.elim
  have hrv : ∀ (h : Nat → Blk) (a : Tm), resultsV vf h a = some (a 4) := fun h a => by
    unfold resultsV
    rw [hres]
    rfl
  have hev := within_ev (fun _ _ _ _ => False) p x k h0 h1 W
  rw [← hb] at hev
  refine (ev_calls hp hm hI hpf hev (fun a _ => a 4) (fun a' w' _ => hrv _ _) (fun i a' w' ⟨a1, r, e, _⟩ => by cases e) hx hrel).mono ?_
  rintro q w' ⟨a', W', β', u, rfl, hk', hu, hs⟩
  rcases hk' with ⟨a1, r, e, hr, h4⟩ | ⟨a1, r, e, hr, h4⟩
  · cases e
  · cases e
    rw [h4] at hu
    exact ⟨_, _, β', u, rfl, hk r hr, hu, hs⟩

/-- slices.Insert and strings.Join, by their numbers -/
noncomputable def stdK (join : Nat) (ins : List (Nat × Nat × Nat)) (f : Nat) : Option (List Val → (Nat → Blk) → Nat → Option Ef) :=
  bif Nat.beq f join then some joinV else List.rec (motive := fun _ => Option (List Val → (Nat → Blk) → Nat → Option Ef)) none (fun q _ ih => bif Nat.beq f q.1 then some (insV q.2.1 q.2.2) else ih) ins

/-- the text of slices.Insert at a type -/
def InsText (p : Nat → Option VF) (q : Nat × Nat × Nat) : Prop := ∃ by0 z cl vf, p q.1 = some vf ∧ vf.body = insC q.2.2 q.2.1 by0 z cl ∧ vf.res = [(6, none)] ∧ z.length = q.2.1 ∧ 2 ≤ q.2.1

theorem std_ok (hp : ∀ f vf, p f = some vf → fnC P f = some vf) (hm : P.follows .mixedOrders = true) {join : Nat} (J : JoinSpec P join) : ∀ ins : List (Nat × Nat × Nat), (∀ q ∈ ins, InsText p q) → ∀ B0, IOk P B0 (IK (stdK join ins))
  | ins, hins, B0 => by
    rintro f xs W K ⟨g, e, h1, h2, hk⟩
    unfold stdK at h1
    cases hj : Nat.beq f join with
    | true =>
      rw [hj] at h1
      simp only [cond_true, Option.some.injEq] at h1
      subst h1
      have := Nat.eq_of_beq_eq_true hj
      subst this
      exact ⟨J.ent, fun β w args hx hrel => (join_ok J hrel hx h2).mono fun q w' ⟨β', u, e1, e2, e3⟩ => ⟨_, _, β', u, e1, hk, e2, e3⟩⟩
    | false =>
      rw [hj] at h1
      simp only [cond_false] at h1
      obtain ⟨q, hq, rfl, rfl⟩ : ∃ q ∈ ins, f = q.1 ∧ g = insV q.2.1 q.2.2 := by
        clear hins
        induction ins with
        | nil => cases h1
        | cons q l ih =>
          cases hb : Nat.beq f q.1 with
          | true =>
            have h1' : (bif Nat.beq f q.1 then some (insV q.2.1 q.2.2) else List.rec (motive := fun _ => Option (List Val → (Nat → Blk) → Nat → Option Ef)) none (fun q _ ih => bif Nat.beq f q.1 then some (insV q.2.1 q.2.2) else ih) l) = some g := h1
            rw [hb] at h1'
            simp only [cond_true, Option.some.injEq] at h1'
            exact ⟨q, List.mem_cons_self, Nat.eq_of_beq_eq_true hb, h1'.symm⟩
          | false =>
            have h1' : (bif Nat.beq f q.1 then some (insV q.2.1 q.2.2) else List.rec (motive := fun _ => Option (List Val → (Nat → Blk) → Nat → Option Ef)) none (fun q _ ih => bif Nat.beq f q.1 then some (insV q.2.1 q.2.2) else ih) l) = some g := h1
            rw [hb] at h1'
            obtain ⟨q', g1, g2⟩ := ih h1'
            exact ⟨q', List.mem_cons_of_mem _ g1, g2⟩
      obtain ⟨by0, z, cl, vf, t1, t2, t3, t4, t5⟩ := hins q hq
      exact ⟨enterable_of (hp _ _ t1), fun β w args hx hrel => (ins_ok hp hm t1 t2 t3 t4 t5 hrel hx h2).mono fun q w' ⟨β', u, e1, e2, e3⟩ => ⟨_, _, β', u, e1, hk, e2, e3⟩⟩

end
end Go.Vx

/- A table of functions by numbers, and what is to be shown of each. What a law leaves behind it. Conditions: none. -/
set_option linter.unusedVariables false
namespace Go.Vx

def All16 {α : Type} (Q : Nat → α → Prop) (k : Nat) (x : L16 α) : Prop := Q (16 * k + 0) x.a0 ∧ Q (16 * k + 1) x.a1 ∧ Q (16 * k + 2) x.a2 ∧ Q (16 * k + 3) x.a3 ∧ Q (16 * k + 4) x.a4 ∧ Q (16 * k + 5) x.a5 ∧ Q (16 * k + 6) x.a6 ∧ Q (16 * k + 7) x.a7 ∧ Q (16 * k + 8) x.a8 ∧ Q (16 * k + 9) x.a9 ∧ Q (16 * k + 10) x.a10 ∧ Q (16 * k + 11) x.a11 ∧ Q (16 * k + 12) x.a12 ∧ Q (16 * k + 13) x.a13 ∧ Q (16 * k + 14) x.a14 ∧ Q (16 * k + 15) x.a15
theorem All16.get {α : Type} {Q : Nat → α → Prop} {k : Nat} {x : L16 α} (h : All16 Q k x) (z : α) : ∀ i, i < 16 → Q (16 * k + i) (get1 z x i)
  | 0, _ => h.1
  | 1, _ => h.2.1
  | 2, _ => h.2.2.1
  | 3, _ => h.2.2.2.1
  | 4, _ => h.2.2.2.2.1
  | 5, _ => h.2.2.2.2.2.1
  | 6, _ => h.2.2.2.2.2.2.1
  | 7, _ => h.2.2.2.2.2.2.2.1
  | 8, _ => h.2.2.2.2.2.2.2.2.1
  | 9, _ => h.2.2.2.2.2.2.2.2.2.1
  | 10, _ => h.2.2.2.2.2.2.2.2.2.2.1
  | 11, _ => h.2.2.2.2.2.2.2.2.2.2.2.1
  | 12, _ => h.2.2.2.2.2.2.2.2.2.2.2.2.1
  | 13, _ => h.2.2.2.2.2.2.2.2.2.2.2.2.2.1
  | 14, _ => h.2.2.2.2.2.2.2.2.2.2.2.2.2.2.1
  | 15, _ => h.2.2.2.2.2.2.2.2.2.2.2.2.2.2.2
  | n + 16, hi => by omega
def All256 {α : Type} (Q : Nat → α → Prop) (x : L16 (L16 α)) : Prop := All16 (fun j y => All16 Q j y) 0 x
theorem All256.get {α : Type} {Q : Nat → α → Prop} {x : L16 (L16 α)} (h : All256 Q x) (z : α) (i : Nat) (hi : i < 256) : Q i (get2 z x i) := by
  have h1 := All16.get h (L16.all z) (i / 16) (by omega)
  have h2 := All16.get h1 z (i % 16) (by omega)
  have e : 16 * (16 * 0 + i / 16) + i % 16 = i := by omega
  rw [e] at h2
  exact h2
theorem get2_out {α : Type} (z : α) (x : L16 (L16 α)) {i : Nat} (hi : 256 ≤ i) : get2 z x i = z := by
  unfold get2
  have : dgOf (Nat.div i 16) = .out := dgOf_ge (by show 16 ≤ i / 16; omega)
  rw [this, sel_out]
  unfold get1
  exact sel_all z _

noncomputable def tabK (g0 g1 : L16 (L16 (Option VF))) (f : Nat) : Option VF := bif Nat.ble f 255 then get2 none g0 f else get2 none g1 (Nat.sub f 256)

def Tab (P : Program) (f : Nat) (o : Option VF) : Prop := ∀ vf, o = some vf → fnC P f = some vf
theorem Tab.no (P : Program) (f : Nat) : Tab P f none := fun _ h => by cases h
theorem Tab.yes {P : Program} {f : Nat} {v : VF} (h : fnC P f = some v) : Tab P f (some v) := fun _ e => by cases e; exact h

theorem tab_hp {P : Program} {g0 g1 : L16 (L16 (Option VF))} (h0 : All256 (Tab P) g0) (h1 : All256 (fun i => Tab P (i + 256)) g1) : ∀ f vf, tabK g0 g1 f = some vf → fnC P f = some vf := by
  intro f vf h
  unfold tabK at h
  cases hb : Nat.ble f 255 with
  | true =>
    rw [hb] at h
    have := Nat.le_of_ble_eq_true hb
    exact h0.get none f (by omega) vf h
  | false =>
    rw [hb] at h
    have h255 : ¬ f ≤ 255 := fun h' => by rw [Nat.ble_eq_true_of_le h'] at hb; cases hb
    simp only [cond_false] at h
    by_cases hf : f < 512
    · have h2 := h1.get none (Nat.sub f 256) (by show f - 256 < 256; omega) vf h
      have e : Nat.sub f 256 + 256 = f := by show f - 256 + 256 = f; omega
      rw [e] at h2
      exact h2
    · rw [get2_out none g1 (by show 256 ≤ f - 256; omega)] at h
      cases h

open Go.ChangeShapes Go.WideShapes Go.ChangeAt Go.RowKit in
/-- what a law whose arguments hold no memory leaves behind it -/
theorem post_plain {H : Type} {enc : TypeId × Value → H} {P : Program} {f : Func} {s : ChangeSpec} {apart fresh handsOn again : Bool} {W W' : World} {args : Array Value} {v : Value} {ds gs : List (DataW H)}
    (hW : DataW.Whole enc P f.params.toList s.vars apart W args.toList ds gs [])
    (hres : ∀ (b : Nat) (sp : Nat → Bool) (hd : Bool), DataW.TrodAll enc P W' b sp hd f.resultTypes.toList (v.resultList f.resultTypes.size) (s.fn H (ds ++ gs)).results [])
    (hargs : ∀ sp : Nat → Bool, DataW.TrodAll enc P W' 0 sp true f.params.toList args.toList (s.fn H (ds ++ gs)).args [])
    (hvars : ∀ sp : Nat → Bool, DataW.TrodVars enc P W' sp s.vars (s.fn H (ds ++ gs)).vars [])
    (hk : W.keptBut W' (fun _ => False))
    (hok : ∀ (j : Nat) (t : TypeId) (r : Value), f.resultTypes[j]? = some t → (v.resultList f.resultTypes.size)[j]? = some r → Value.okWide P W' .any 0 t r) :
    s.post enc P f apart fresh handsOn again W args v W' := by
  refine ⟨ds, gs, [], [], [], [], hW, hres _ _ _, hargs _, hvars _, World.keptBut_mono (fun p hp => hp.elim) hk, fun _ => ?_⟩
  obtain ⟨_, _, _, _, _, hz, hn⟩ := hW
  refine ⟨hok, _, _, ([] ++ []) ++ [], ⟨[] ++ [], [], trodAll_append (hargs _) (hres _ _ _), hvars _, rfl, ?_, ?_⟩, ?_⟩
  · intro b off hp
    simp at hp
  · intro ha
    exact hn ha
  · intro p hp _
    simp at hp

end Go.Vx

/- What is left of a law behind its head, run from a tree; the tie of a tree to slots. Conditions: none. -/
set_option linter.unusedVariables false
namespace Go.Vx

noncomputable def isT : Val → Bool := fun v => Val.rec (motive_1 := fun _ => Bool) (motive_2 := fun _ => Bool) false (fun _ _ => false) (fun b => b) (fun _ => false) false (fun _ _ => false) false (fun _ _ _ _ => false) false (fun _ => false) false (fun _ _ _ _ _ => false) false (fun _ _ _ => false) (fun _ _ => false) (fun _ _ => false) false (fun _ _ _ _ => false) v
theorem isT_true {v : Val} (h : isT v = true) : v = .bool true := by
  cases v with
  | bool b =>
    have : b = true := h
    rw [this]
  | _ => cases h

/-- does it end with 'true' in a slot? -/
noncomputable def okR (s : Nat) (z : Rz) : Bool := Rz.rec (motive := fun _ => Bool) false (fun t _ _ => isT (get2 .undef t s)) (fun _ _ _ _ => false) (fun t _ _ => isT (get2 .undef t s)) z

/-- the law answers 'true' -/
def SaidT (s : Nat) (out : Out) : Prop := ∃ a' W', (out = .ret a' W' ∨ out = .norm a' W') ∧ a' s = .bool true

theorem okR_good {s : Nat} {z : Rz} (h : okR s z = true) : Good z (SaidT s) := by
  cases z with
  | fail => cases h
  | norm t h' nx => exact ⟨_, _, .inr rfl, isT_true h⟩
  | exit i t h' nx => cases h
  | ret t h' nx => exact ⟨_, _, .inl rfl, isT_true h⟩

theorem rest_ev {ik : Nat → Option (List Val → (Nat → Blk) → Nat → Option Ef)} {p : Nat → Option VF} {I : Intr} (hI : ∀ f xs W K, IK ik f xs W K → I f xs W K) {s n nx : Nat} {c : C} {t : TT} {h : HH} (e : okR s (codeK (runK ik p n) c t h nx) = true) : Ev I p c (gT t) ⟨gH h, nx⟩ (SaidT s) :=
  Ev.mono hI (code_snd (run_snd n) c t h nx _ (okR_good e))

theorem gT_T0 (i : Nat) : gT T0 i = .undef := get2_all Val.undef i

section
variable {P : Program} {p : Nat → Option VF}

/-- a law that answers 'true' by the rules answers 'true', and changes nothing that was there -/
theorem said_calls (hp : ∀ f vf, p f = some vf → fnC P f = some vf) (hm : P.follows .mixedOrders = true) {I : Intr} (hI : ∀ B0, IOk P B0 I) {f s : Nat} {vf : VF} (hpf : p f = some vf) (hres : vf.res = [(s, none)]) {xs : List Val} (hev : Ev I p vf.body (enter xs) ⟨gH H0, 0⟩ (SaidT s))
    {w : World} {args : Array Value} (hx : VRs β0 xs args.toList) : Calls P f args w fun e w' => e = .returned (.bool true) ∧ w.keptBut w' (fun _ => False) := by
  have hrv : ∀ (h : Nat → Blk) (a : Tm), resultsV vf h a = some (a s) := fun h a => by
    unfold resultsV
    rw [hres]
    rfl
  refine (ev_calls hp hm (hI w.heap.size) hpf hev (fun a _ => a s) (fun a' w' _ => hrv _ _) ?_ hx (start_rel w _)).mono ?_
  · rintro i a' w' ⟨a1, W1, (e | e), _⟩ <;> cases e
  · rintro e w' ⟨a', W', β', u, rfl, hk, hu, hs⟩
    have h4 : a' s = .bool true := by
      rcases hk with ⟨a1, W1, (e | e), h⟩ | ⟨a1, W1, (e | e), h⟩ <;> cases e <;> exact h
    rw [h4] at hu
    cases hu
    exact ⟨rfl, hs.kept _⟩
end
end Go.Vx

/- No goroutine is started by any text: chunk by chunk. Conditions: none. -/
set_option linter.unusedVariables false
namespace Go.Vx

theorem any_chunks {α : Type} (p : α → Bool) (n : Nat) : ∀ (k : Nat) (l : List α), l.length ≤ n * k → (∀ j, j < k → ((l.drop (n * j)).take n).any p = false) → l.any p = false
  | 0, l, h, _ => by
    have : l = [] := List.length_eq_zero_iff.1 (by omega)
    subst this; rfl
  | k + 1, l, h, hc => by
    have h0 := hc 0 (by omega)
    have ih := any_chunks p n k (l.drop n) (by rw [List.length_drop]; have : n * (k + 1) = n * k + n := by rw [Nat.mul_add, Nat.mul_one]
                                               omega) (fun j hj => by
      have := hc (j + 1) (by omega)
      rw [List.drop_drop]
      have e : n * (j + 1) = n + n * j := by rw [Nat.mul_add, Nat.mul_one, Nat.add_comm]
      rw [e] at this
      exact this)
    have e : l = l.take n ++ l.drop n := (List.take_append_drop n l).symm
    rw [e, List.any_append, ih]
    simpa using h0

theorem goes_none {P : Program} (h : P.funcs.toList.any Func.goes = false) {c : OpenClaim} (hs : c.start = .entering) : false = c.goesBy P := by
  have ha : P.funcs.any Func.goes = false := by rw [← Array.any_toList]; exact h
  have key : ∀ g : Nat, (P.funcs[g]?).any Func.goes = false := fun g => by
    cases hg : P.funcs[g]? with
    | none => rfl
    | some fn =>
      have hm : fn ∈ P.funcs.toList := by
        have := Array.mem_of_getElem? hg
        simpa using this
      simp only [Option.any_some]
      cases hf : fn.goes with
      | false => rfl
      | true =>
        have : P.funcs.toList.any Func.goes = true := List.any_eq_true.2 ⟨fn, hm, hf⟩
        rw [h] at this; cases this
  have hf : ∀ f, P.goes f = false := fun f => by
    unfold Program.goes
    rw [ha]
    simp [key]
  unfold OpenClaim.goesBy Program.goesAt Program.goesFrom
  rw [hs]
  cases P.funcNamed c.func with
  | none => rfl
  | some f => simp [hf]
end Go.Vx

/-
  Plain: states, logs, bases. No conditions; no program in sight.
-/
import Derived.Test.YtdnncgapbjnfoaaBeats
namespace Go.Proofs.Ytdnncgapbjnfoaa
open Go Go.RowKit
set_option linter.unusedVariables false

theorem agg2 {a b a' b' : Value} (h1 : a = a') (h2 : b = b') : Value.agg #[a, b] = Value.agg #[a', b'] := by rw [h1, h2]
theorem agg3 {a b c a' b' c' : Value} (h1 : a = a') (h2 : b = b') (h3 : c = c') : Value.agg #[a, b, c] = Value.agg #[a', b', c'] := by rw [h1, h2, h3]
theorem beq_dec {p q r : Prop} [Decidable p] [Decidable q] (h : (p ↔ q) ↔ r) : (decide p == decide q) = dec r := by
  by_cases hp : p <;> by_cases hq : q <;> simp [hp, hq] at h <;> simp [hp, hq]
  · exact dec_yes h
  · exact dec_no h
  · exact dec_no h
  · exact dec_yes h

theorem mul_bd {a b : Int} (h0 : 0 ≤ a) (h1 : a ≤ 5) (h2 : 0 ≤ b) (h3 : b ≤ 3) : 0 ≤ a * b ∧ a * b ≤ 15 :=
  ⟨Int.mul_nonneg h0 h2, Int.mul_le_mul h1 h3 h2 (by decide)⟩
theorem mul_lo {a b : Int} (h0 : 0 ≤ a) (h1 : a ≤ 5) (h2 : 0 ≤ b) (h3 : b ≤ 3) : -9223372036854775808 ≤ a * b := by have := mul_bd h0 h1 h2 h3; omega
theorem mul_hi {a b : Int} (h0 : 0 ≤ a) (h1 : a ≤ 5) (h2 : 0 ≤ b) (h3 : b ≤ 3) : a * b ≤ 9223372036854775807 := by have := mul_bd h0 h1 h2 h3; omega

/- an update is a pair: its key, its value -/
def LogOK (xs : List Bt) : Prop := xs.length ≤ 12 ∧ ∀ j, j < xs.length → ((0 ≤ (el xs j).s ∧ (el xs j).s ≤ 4) ∧ (0 ≤ (el xs j).a ∧ (el xs j).a ≤ 99))
def StateOK (xs : List Int) : Prop := xs.length = 5 ∧ ∀ j, j < xs.length → -1 ≤ el xs j ∧ el xs j ≤ 99
def someL (xs : List Int) : Nat := (xs.filter fun x => decide (0 ≤ x)).length
theorem someL_yes {xs : List Int} {k : Nat} (hk : k < xs.length) (h : 0 ≤ el xs k) : someL (xs.take (k + 1)) = someL (xs.take k) + 1 := by
  unfold someL
  rw [take_snoc xs k hk, List.filter_append, List.filter_cons, if_pos (by simpa using h)]
  simp
theorem someL_no {xs : List Int} {k : Nat} (hk : k < xs.length) (h : ¬0 ≤ el xs k) : someL (xs.take (k + 1)) = someL (xs.take k) := by
  unfold someL
  rw [take_snoc xs k hk, List.filter_append, List.filter_cons, if_neg (by simpa using h)]
  simp
theorem someL_le (xs : List Int) : someL xs ≤ xs.length := List.length_filter_le _ _
def BaseOK (m : Int) (xs : List Int) : Prop := (0 ≤ m ∧ m ≤ 999) ∧ StateOK xs ∧ (someL xs : Int) ≤ m ∧ (0 < someL xs ↔ 0 < m)
def runL (xs : List Int) (log : List Bt) : List Int := log.foldl (fun s u => s.set u.s.toNat u.a) xs
theorem runL_nil (xs : List Int) : runL xs [] = xs := rfl
theorem runL_snoc (xs : List Int) {log : List Bt} {k : Nat} (hk : k < log.length) : runL xs (log.take (k + 1)) = (runL xs (log.take k)).set (el log k).s.toNat (el log k).a := by
  unfold runL
  rw [take_snoc log k hk, List.foldl_append]
  rfl
theorem runL_len (log : List Bt) : ∀ xs : List Int, (runL xs log).length = xs.length := by
  induction log with
  | nil => intro xs; rfl
  | cons u r ih => intro xs; show (runL (xs.set _ _) r).length = _; rw [ih, List.length_set]
theorem runL_parts (xs : List Int) (log : List Bt) (k : Nat) : runL (runL xs (log.take k)) (log.drop k) = runL xs log := by
  unfold runL
  rw [← List.foldl_append, List.take_append_drop]
theorem some_set : ∀ (xs : List Int) (k : Nat) (v : Int), k < xs.length → 0 ≤ v → someL (xs.set k v) ≤ someL xs + 1 ∧ 0 < someL (xs.set k v) := by
  intro xs
  induction xs with
  | nil => intro k v h; simp at h
  | cons x r ih =>
    intro k v hk hv
    cases k with
    | zero =>
      unfold someL
      simp only [List.set_cons_zero, List.filter_cons, hv, decide_true, if_true, List.length_cons]
      split <;> simp
    | succ k =>
      obtain ⟨h1, h2⟩ := ih k v (by simpa using hk) hv
      unfold someL at h1 h2 ⊢
      simp only [List.set_cons_succ, List.filter_cons]
      split <;> (try simp only [List.length_cons]) <;> omega
theorem logok_take {log : List Bt} (h : LogOK log) (k : Nat) : LogOK (log.take k) :=
  ⟨by have := h.1; simp; omega, fun j hj => by
    simp only [List.length_take] at hj
    rw [el_take _ _ _ (by omega)]
    exact h.2 j (by omega)⟩
theorem logok_drop {log : List Bt} (h : LogOK log) (k : Nat) : LogOK (log.drop k) :=
  ⟨by have := h.1; simp; omega, fun j hj => by
    simp only [List.length_drop] at hj
    rw [el_drop]
    exact h.2 _ (by omega)⟩
theorem run_state {log : List Bt} : ∀ {xs : List Int}, StateOK xs → (∀ u ∈ log, (0 ≤ u.s ∧ u.s ≤ 4) ∧ (0 ≤ u.a ∧ u.a ≤ 99)) → StateOK (runL xs log) ∧ someL (runL xs log) ≤ someL xs + log.length ∧ (0 < log.length → 0 < someL (runL xs log)) := by
  induction log with
  | nil => intro xs h _; exact ⟨h, Nat.le_refl _, fun h => by simp at h⟩
  | cons u r ih =>
    intro xs h hu
    obtain ⟨h1, h2⟩ := hu u (by simp)
    have hk : u.s.toNat < xs.length := by have := h.1; omega
    have hs : StateOK (xs.set u.s.toNat u.a) := ⟨by simpa using h.1, fun j hj => by
      rw [el_set _ _ _ _ hk]
      split
      · omega
      · exact h.2 j (by simpa using hj)⟩
    obtain ⟨a1, a2, a3⟩ := ih hs (fun v hv => hu v (by simp [hv]))
    obtain ⟨b1, b2⟩ := some_set xs _ u.a hk h2.1
    refine ⟨a1, ?_, fun _ => ?_⟩
    · show someL (runL (xs.set u.s.toNat u.a) r) ≤ _
      simp only [List.length_cons]; omega
    · show 0 < someL (runL (xs.set u.s.toNat u.a) r)
      cases r with
      | nil => exact b2
      | cons v q => exact a3 (by simp)
theorem log_mem {log : List Bt} (h : LogOK log) : ∀ u ∈ log, (0 ≤ u.s ∧ u.s ≤ 4) ∧ (0 ≤ u.a ∧ u.a ≤ 99) := fun u hu => by
  obtain ⟨j, hj, rfl⟩ := mem_el.1 hu
  exact h.2 j hj
theorem run_base {m : Int} {xs : List Int} {log : List Bt} (h : BaseOK m xs) (hl : LogOK log) (h9 : m + log.length ≤ 999) : BaseOK (m + log.length) (runL xs log) := by
  obtain ⟨h1, h2, h3, h4⟩ := h
  obtain ⟨a1, a2, a3⟩ := run_state h2 (log_mem hl)
  refine ⟨by omega, a1, by omega, ?_⟩
  rcases Nat.eq_zero_or_pos log.length with h0 | h0
  · have : log = [] := List.eq_nil_of_length_eq_zero h0
    subst this
    simpa [runL] using h4
  · have := a3 h0
    constructor
    · intro _; omega
    · intro _; exact this
def RunOK (m : Int) (xs : List Int) (log : List Bt) : Prop := BaseOK m xs ∧ LogOK log ∧ BaseOK (m + log.length) (runL xs log)
noncomputable def runM (m : Int) (xs : List Int) (log : List Bt) : Int := bif dec (RunOK m xs log) then m + log.length else 0
noncomputable def runV (m : Int) (xs : List Int) (log : List Bt) : List Int := bif dec (RunOK m xs log) then runL xs log else []
section
variable {m : Int} {xs : List Int} {log : List Bt}
theorem runM_yes (h : RunOK m xs log) : runM m xs log = m + log.length := by unfold runM; rw [dec_yes h]; rfl
theorem runM_no (h : ¬RunOK m xs log) : runM m xs log = 0 := by unfold runM; rw [dec_no h]; rfl
theorem runV_yes (h : RunOK m xs log) : runV m xs log = runL xs log := by unfold runV; rw [dec_yes h]; rfl
theorem runV_no (h : ¬RunOK m xs log) : runV m xs log = [] := by unfold runV; rw [dec_no h]; rfl
theorem runV_le (m : Int) (xs : List Int) (log : List Bt) : (runV m xs log).length ≤ 5 := by
  by_cases h : RunOK m xs log
  · rw [runV_yes h, runL_len]; have := h.1.2.1.1; omega
  · rw [runV_no h]; simp
theorem run_on (h : RunOK m xs log) (k : Nat) : RunOK m xs (log.take k) ∧ RunOK (m + (log.take k).length) (runL xs (log.take k)) (log.drop k) ∧ runL (runL xs (log.take k)) (log.drop k) = runL xs log ∧ m + (log.take k).length + (log.drop k).length = m + log.length := by
  obtain ⟨h1, h2, h3⟩ := h
  have hl : ((log.take k).length : Int) + (log.drop k).length = log.length := by simp only [List.length_take, List.length_drop]; omega
  have h9 := h3.1.2
  have t1 := run_base h1 (logok_take h2 k) (by omega)
  refine ⟨⟨h1, logok_take h2 k, t1⟩, ⟨t1, logok_drop h2 k, run_base t1 (logok_drop h2 k) (by omega)⟩, runL_parts _ _ _, by omega⟩
end
/-! states behind the first updates -/
def empty5 : List Int := [-1, -1, -1, -1, -1]
theorem empty_ok : StateOK empty5 := ⟨rfl, fun j hj => by
  have : j < 5 := hj
  match j, this with
  | 0, _ => exact ⟨by decide, by decide⟩
  | 1, _ => exact ⟨by decide, by decide⟩
  | 2, _ => exact ⟨by decide, by decide⟩
  | 3, _ => exact ⟨by decide, by decide⟩
  | 4, _ => exact ⟨by decide, by decide⟩⟩
theorem base_of {log : List Bt} (h : LogOK log) {k : Nat} (hk : k ≤ log.length) : BaseOK k (runL empty5 (log.take k)) := by
  have h0 : BaseOK 0 empty5 := ⟨by omega, empty_ok, by decide, by decide⟩
  have hl : (log.take k).length = k := by simp; omega
  have := run_base h0 (logok_take h k) (by have := h.1; omega)
  rw [hl] at this
  simpa using this
end Go.Proofs.Ytdnncgapbjnfoaa

/-
  Plain: bytes of a piece, sums of parts, parts that are bad, writing. No conditions; no program in sight.
-/
import Derived.Test.YthgnnpafieifmaaKinds
namespace Go.Proofs.Ythgnnpafieifmaa
open Go Go.RowKit
set_option linter.unusedVariables false

def BytesOK (xs : List Int) : Prop := xs.length ≤ 16 ∧ ∀ j, j < xs.length → 0 ≤ el xs j ∧ el xs j ≤ 255

def stepSum (s b : Int) : Int := (263 * s + b).tmod 997
def partSum (xs : List Int) : Int := xs.foldl stepSum 11

theorem step_bd (s b : Int) : -997 < stepSum s b ∧ stepSum s b < 997 := ⟨Int.lt_tmod_of_pos _ (by omega), Int.tmod_lt_of_pos _ (by omega)⟩
theorem step_nn {s b : Int} (hs : 0 ≤ s) (hb : 0 ≤ b) : stepSum s b = (263 * s + b) % 997 := Int.tmod_eq_emod_of_nonneg (by omega)
theorem partSum_snoc (xs : List Int) (b : Int) : partSum (xs ++ [b]) = (263 * partSum xs + b).tmod 997 := by
  simp [partSum, stepSum]
theorem partSum_take (xs : List Int) (k : Nat) (h : k < xs.length) : partSum (xs.take (k + 1)) = (263 * partSum (xs.take k) + el xs k).tmod 997 := by
  rw [take_snoc xs k h, partSum_snoc]
theorem foldl_bd (xs : List Int) : ∀ s : Int, -997 < s → s < 997 → -997 < xs.foldl stepSum s ∧ xs.foldl stepSum s < 997 := by
  induction xs with
  | nil => intro s h h2; exact ⟨h, h2⟩
  | cons x r ih => intro s h h2; exact ih _ (step_bd s x).1 (step_bd s x).2
theorem partSum_bd (xs : List Int) : -997 < partSum xs ∧ partSum xs < 997 := foldl_bd xs 11 (by omega) (by omega)

theorem bytes_long {xs : List Int} (h : 16 < xs.length) : ¬BytesOK xs := fun hb => by have := hb.1; omega
theorem bytes_take {xs : List Int} (h : BytesOK xs) (m : Nat) : BytesOK (xs.take m) :=
  ⟨by have := h.1; have := List.length_take_le m xs; have : (xs.take m).length ≤ xs.length := by simp; omega
      omega, fun j hj => by
    have h1 : (xs.take m).length ≤ m := List.length_take_le _ _
    have h2 : (xs.take m).length ≤ xs.length := by simp; omega
    rw [el_take _ _ _ (by omega)]
    exact h.2 j (by omega)⟩
theorem bytes_drop {xs : List Int} (h : BytesOK xs) (m : Nat) : BytesOK (xs.drop m) :=
  ⟨by have := h.1; simp; omega, fun j hj => by
    rw [el_drop]
    simp only [List.length_drop] at hj
    exact h.2 (m + j) (by omega)⟩
theorem bytes_set {xs : List Int} (h : BytesOK xs) (k : Nat) (y : Int) (hk : k < xs.length) (h0 : 0 ≤ y) (h1 : y ≤ 255) : BytesOK (xs.set k y) :=
  ⟨by simpa using h.1, fun j hj => by
    rw [el_set _ _ _ _ hk]
    split
    · exact ⟨h0, h1⟩
    · exact h.2 j (by simpa using hj)⟩

/-! what is drawn -/
def DrawnB (xs : List Int) : Prop := ∀ j, j < xs.length → -1 ≤ el xs j ∧ el xs j ≤ 256
theorem drawn_snoc {xs : List Int} (h : DrawnB xs) (y : Int) (h0 : -1 ≤ y) (h1 : y ≤ 256) : DrawnB (xs ++ [y]) := fun j hj => by
  rw [el_app1]
  simp only [List.length_append, List.length_singleton] at hj
  by_cases hl : j < xs.length
  · rw [if_pos hl]; exact h j hl
  · rw [if_neg hl, if_pos (by omega)]; exact ⟨h0, h1⟩
theorem drawn_set {xs : List Int} (h : DrawnB xs) (k : Nat) (y : Int) (hk : k < xs.length) (h0 : -1 ≤ y) (h1 : y ≤ 256) : DrawnB (xs.set k y) := fun j hj => by
  rw [el_set _ _ _ _ hk]
  split
  · exact ⟨h0, h1⟩
  · exact h j (by simpa using hj)
theorem drawn_zero (m : Nat) : DrawnB (List.replicate m default) := fun j hj => by
  have : el (List.replicate m (default : Int)) j = 0 := by
    unfold el
    simp only [List.getD_eq_getElem?_getD, List.getElem?_replicate]
    split <;> rfl
  rw [this]; omega
theorem drawn_nil : DrawnB [] := fun j hj => by simp at hj
theorem drawn_take {xs : List Int} (h : DrawnB xs) (m : Nat) : DrawnB (xs.take m) := fun j hj => by
  simp only [List.length_take] at hj
  rw [el_take _ _ _ (by omega)]
  exact h j (by omega)
theorem two_bd (i : Nat) : -1 ≤ el [(-1 : Int), 256] i ∧ el [(-1 : Int), 256] i ≤ 256 := by
  match i with
  | 0 => exact ⟨by decide, by decide⟩
  | 1 => exact ⟨by decide, by decide⟩
  | n + 2 => exact ⟨by show -1 ≤ (0 : Int); decide, by show (0 : Int) ≤ 256; decide⟩

/-! parts -/
def part (xs : List Int) (i : Nat) : List Int := (xs.drop (4 * i)).take 4
def nparts (xs : List Int) : Nat := (xs.length + 3) / 4
def sumsTo (xs : List Int) (k : Nat) : List Int := (List.range k).map fun i => partSum (part xs i)
def sumsL (xs : List Int) : List Int := sumsTo xs (nparts xs)

theorem sumsTo_zero (xs : List Int) : sumsTo xs 0 = [] := rfl
theorem sumsTo_succ (xs : List Int) (k : Nat) : sumsTo xs (k + 1) = sumsTo xs k ++ [partSum (part xs k)] := by simp [sumsTo, List.range_succ]
theorem sumsTo_len (xs : List Int) (k : Nat) : (sumsTo xs k).length = k := by simp [sumsTo]
theorem sumsL_len (xs : List Int) : (sumsL xs).length = nparts xs := sumsTo_len _ _
theorem sumsL_le (xs : List Int) : (sumsL xs).length ≤ xs.length := by rw [sumsL_len]; unfold nparts; omega
theorem el_sumsTo (xs : List Int) (k i : Nat) (h : i < k) : el (sumsTo xs k) i = partSum (part xs i) := by
  simp [el, sumsTo, List.getD, h]
theorem el_sumsL (xs : List Int) (i : Nat) (h : i < nparts xs) : el (sumsL xs) i = partSum (part xs i) := el_sumsTo _ _ _ h
theorem part_mid (xs : List Int) (i m : Nat) (hm : m = min (4 * i + 4) xs.length) : (xs.take m).drop (4 * i) = part xs i := by
  unfold part
  rw [List.drop_take]
  subst hm
  by_cases h : 4 * i + 4 ≤ xs.length
  · rw [Nat.min_eq_left h, Nat.add_sub_cancel_left]
  · rw [Nat.min_eq_right (by omega), List.take_of_length_le (by simp), List.take_of_length_le (by simp; omega)]
theorem part_head (xs : List Int) (i m : Nat) (hm : m = min 4 (xs.length - 4 * i)) : (xs.drop (4 * i)).take m = part xs i := by
  unfold part
  subst hm
  by_cases h : 4 ≤ xs.length - 4 * i
  · rw [Nat.min_eq_left h]
  · rw [Nat.min_eq_right (by omega), List.take_of_length_le (by simp), List.take_of_length_le (by simp; omega)]
theorem part_len (xs : List Int) (i : Nat) : (part xs i).length = min 4 (xs.length - 4 * i) := by simp [part]

theorem part_bd {xs : List Int} {n : Nat} (hb : ∀ j, j < n → -1000000 ≤ el xs j ∧ el xs j ≤ 1000000) (i j : Nat) (h : j < min 4 (n - 4 * i)) : -1000000 ≤ el (part xs i) j ∧ el (part xs i) j ≤ 1000000 := by
  unfold part
  rw [el_take _ _ _ (by omega), el_drop]
  exact hb _ (by omega)
theorem drop_parts (xs : List Int) (k m : Nat) (hm : m = min 4 (xs.length - 4 * k)) : (xs.drop (4 * k)).drop m = xs.drop (4 * (k + 1)) := by
  rw [List.drop_drop]
  by_cases h : 4 ≤ xs.length - 4 * k
  · congr 1; omega
  · rw [List.drop_of_length_le (by omega), List.drop_of_length_le (by omega)]
noncomputable def sumsV (xs : List Int) : List Int := bif dec (BytesOK xs) then sumsL xs else []
theorem sumsV_yes {xs : List Int} (h : BytesOK xs) : sumsV xs = sumsL xs := by unfold sumsV; rw [dec_yes h]; rfl
theorem sumsV_no {xs : List Int} (h : ¬BytesOK xs) : sumsV xs = [] := by unfold sumsV; rw [dec_no h]; rfl

theorem sums_parts {xs : List Int} (h : 4 ≤ xs.length) : sumsL (xs.take 4) ++ sumsL (xs.drop 4) = sumsL xs := by
  have h1 : nparts (xs.take 4) = 1 := by unfold nparts; simp; omega
  have h2 : nparts xs = nparts (xs.drop 4) + 1 := by unfold nparts; simp; omega
  have h3 : sumsL (xs.take 4) = [partSum (part xs 0)] := by
    unfold sumsL
    rw [h1]
    simp [sumsTo, part, List.take_take]
  have h4 : ∀ k, sumsTo xs (k + 1) = [partSum (part xs 0)] ++ sumsTo (xs.drop 4) k := fun k => by
    unfold sumsTo
    rw [List.range_succ_eq_map]
    simp only [List.map_cons, List.map_map, List.singleton_append, List.cons.injEq, true_and]
    refine List.map_congr_left fun i _ => ?_
    simp only [Function.comp_apply, part, List.drop_drop]
    congr 3
    omega
  rw [h3]
  unfold sumsL
  rw [h2, h4]

/-! parts that are bad -/
def badTo (all ss : List Int) (k : Nat) : List Int := ((List.range k).filter fun i => !(decide (i < ss.length) && decide (el ss i = el all i))).map Int.ofNat
def badL (all ss : List Int) : List Int := badTo all ss all.length
theorem badTo_zero (all ss : List Int) : badTo all ss 0 = [] := rfl
theorem badTo_yes (all ss : List Int) (k : Nat) (h : ¬(k < ss.length ∧ el ss k = el all k)) : badTo all ss (k + 1) = badTo all ss k ++ [(k : Int)] := by
  have : (decide (k < ss.length) && decide (el ss k = el all k)) = false := by
    rw [← Bool.not_eq_true, Bool.and_eq_true, decide_eq_true_eq, decide_eq_true_eq]; exact h
  simp only [badTo, List.range_succ, List.filter_append, List.map_append, List.filter_cons, this, Bool.not_false, if_true, List.filter_nil]
  rfl
theorem badTo_no (all ss : List Int) (k : Nat) (h : k < ss.length ∧ el ss k = el all k) : badTo all ss (k + 1) = badTo all ss k := by
  simp [badTo, List.range_succ, List.filter_append, h.1, h.2]
theorem badTo_le (all ss : List Int) (k : Nat) : (badTo all ss k).length ≤ k := by
  unfold badTo
  rw [List.length_map]
  exact Nat.le_trans (List.length_filter_le _ _) (by simp)
theorem badL_le (all ss : List Int) : (badL all ss).length ≤ all.length := badTo_le _ _ _
theorem badTo_none (all ss : List Int) : ∀ k, (∀ i, i < k → i < ss.length ∧ el ss i = el all i) → badTo all ss k = [] := by
  intro k
  induction k with
  | zero => intro _; rfl
  | succ k ih => intro h; rw [badTo_no _ _ _ (h k (by omega)), ih (fun i hi => h i (by omega))]
theorem badTo_all (all ss : List Int) : ∀ k, (∀ i, i < k → ¬(i < ss.length ∧ el ss i = el all i)) → (badTo all ss k).length = k := by
  intro k
  induction k with
  | zero => intro _; rfl
  | succ k ih => intro h; rw [badTo_yes _ _ _ (h k (by omega)), List.length_append, ih (fun i hi => h i (by omega))]; rfl
theorem badTo_one (all ss : List Int) (m : Nat) (hm : ¬(m < ss.length ∧ el ss m = el all m)) : ∀ k, m < k → (∀ i, i < k → i ≠ m → i < ss.length ∧ el ss i = el all i) → badTo all ss k = [(m : Int)] := by
  intro k
  induction k with
  | zero => intro h; omega
  | succ k ih =>
    intro hk h
    by_cases e : m = k
    · subst e
      rw [badTo_yes _ _ _ hm, badTo_none _ _ _ (fun i hi => h i (by omega) (by omega))]
      rfl
    · rw [badTo_no _ _ _ (h k (by omega) (by omega)), ih (by omega) (fun i hi hne => h i (by omega) hne)]
theorem badTo_nil_inv (all ss : List Int) : ∀ k, badTo all ss k = [] → ∀ i, i < k → i < ss.length ∧ el ss i = el all i := by
  intro k
  induction k with
  | zero => intro _ i hi; omega
  | succ k ih =>
    intro h i hi
    by_cases hk : k < ss.length ∧ el ss k = el all k
    · rw [badTo_no _ _ _ hk] at h
      by_cases e : i = k
      · subst e; exact hk
      · exact ih h i (by omega)
    · rw [badTo_yes _ _ _ hk] at h
      have := congrArg List.length h
      simp at this
theorem badTo_spec (all ss : List Int) : ∀ k i, i < (badTo all ss k).length → (0 < i → el (badTo all ss k) (i - 1) < el (badTo all ss k) i) ∧ 0 ≤ el (badTo all ss k) i ∧ el (badTo all ss k) i < k ∧
    ¬((el (badTo all ss k) i).toNat < ss.length ∧ el ss (el (badTo all ss k) i).toNat = el all (el (badTo all ss k) i).toNat) := by
  intro k
  induction k with
  | zero => intro i hi; simp [badTo] at hi
  | succ k ih =>
    intro i hi
    by_cases hk : k < ss.length ∧ el ss k = el all k
    · rw [badTo_no _ _ _ hk] at hi ⊢
      obtain ⟨h1, h2, h3, h4⟩ := ih i hi
      exact ⟨h1, h2, by omega, h4⟩
    · rw [badTo_yes _ _ _ hk] at hi ⊢
      have hlast : el (badTo all ss k ++ [(k : Int)]) (badTo all ss k).length = k := by simp [el, List.getD]
      have hsame : ∀ j, j < (badTo all ss k).length → el (badTo all ss k ++ [(k : Int)]) j = el (badTo all ss k) j := fun j hj => by
        simp [el, List.getD, List.getElem?_append_left hj]
      simp only [List.length_append, List.length_singleton] at hi
      by_cases e : i = (badTo all ss k).length
      · subst e
        rw [hlast]
        refine ⟨fun h0 => ?_, by omega, by omega, by rw [Int.toNat_natCast]; exact hk⟩
        rw [hsame _ (by omega)]
        have := (ih ((badTo all ss k).length - 1) (by omega)).2.2.1
        omega
      · obtain ⟨h1, h2, h3, h4⟩ := ih i (by omega)
        rw [hsame i (by omega)]
        refine ⟨fun h0 => ?_, h2, by omega, h4⟩
        rw [hsame _ (by omega)]
        exact h1 h0
theorem badL_self (all : List Int) : badL all all = [] := badTo_none _ _ _ fun i hi => ⟨hi, rfl⟩
theorem badL_more (all more : List Int) : badL all (all ++ more) = [] := badTo_none _ _ _ fun i hi => ⟨by simp; omega, by simp [el, List.getD, List.getElem?_append_left hi]⟩
theorem badL_empty (all : List Int) : (badL all []).length = all.length := badTo_all _ _ _ fun i hi h => by simp at h
theorem bad_iff {all ss : List Int} : (badL all ss = [] ∧ ss.length ≤ all.length) ↔ all = ss := by
  constructor
  · rintro ⟨h1, h2⟩
    have h3 := badTo_nil_inv all ss all.length h1
    have hl : all.length = ss.length := by
      rcases Nat.eq_zero_or_pos all.length with h0 | h0
      · omega
      · have := (h3 (all.length - 1) (by omega)).1; omega
    exact eq_of_el hl fun j hj => (h3 j hj).2.symm
  · rintro rfl
    exact ⟨badL_self all, Nat.le_refl _⟩
noncomputable def badV (xs ss : List Int) : List Int := bif dec (BytesOK xs) then badL (sumsL xs) ss else []
theorem badV_yes {xs ss : List Int} (h : BytesOK xs) : badV xs ss = badL (sumsL xs) ss := by unfold badV; rw [dec_yes h]; rfl
theorem badV_no {xs ss : List Int} (h : ¬BytesOK xs) : badV xs ss = [] := by unfold badV; rw [dec_no h]; rfl
theorem badV_le (xs ss : List Int) : (badV xs ss).length ≤ 4 := by
  by_cases h : BytesOK xs
  · rw [badV_yes h]
    have := badL_le (sumsL xs) ss
    have h2 := h.1
    rw [sumsL_len] at this
    unfold nparts at this
    omega
  · rw [badV_no h]; simp
theorem badV_spec {xs : List Int} (ss : List Int) (h : BytesOK xs) (i : Nat) (hi : i < (badV xs ss).length) : (0 < i → el (badV xs ss) ((i : Int) - 1).toNat < el (badV xs ss) i) ∧ 0 ≤ el (badV xs ss) i ∧ el (badV xs ss) i < (sumsV xs).length ∧
    ¬((el (badV xs ss) i).toNat < ss.length ∧ el ss (el (badV xs ss) i).toNat = el (sumsV xs) (el (badV xs ss) i).toNat) := by
  rw [badV_yes h] at hi ⊢
  rw [sumsV_yes h]
  obtain ⟨h1, h2, h3, h4⟩ := badTo_spec (sumsL xs) ss (sumsL xs).length i hi
  exact ⟨fun h0 => by rw [show ((i : Int) - 1).toNat = i - 1 by omega]; exact h1 h0, h2, h3, h4⟩
theorem badV_some {xs ss : List Int} (h : (badV xs ss).length ≠ 0) : BytesOK xs := by
  rcases Classical.em (BytesOK xs) with h1 | h1
  · exact h1
  · rw [badV_no h1] at h; exact absurd rfl h
theorem sumsV_le (xs : List Int) : (sumsV xs).length ≤ 4 := by
  by_cases h : BytesOK xs
  · rw [sumsV_yes h, sumsL_len]
    have h2 := h.1
    unfold nparts
    omega
  · rw [sumsV_no h]; simp

/-! a byte that is damaged -/
theorem step_inj {s t b : Int} (hs : 0 ≤ s) (hs' : s < 997) (ht : 0 ≤ t) (ht' : t < 997) (hb : 0 ≤ b) (h : stepSum s b = stepSum t b) : s = t := by
  rw [step_nn hs hb, step_nn ht hb] at h; omega
theorem step_inj2 {s b c : Int} (hs : 0 ≤ s) (hb : 0 ≤ b) (hb' : b ≤ 255) (hc : 0 ≤ c) (hc' : c ≤ 255) (h : stepSum s b = stepSum s c) : b = c := by
  rw [step_nn hs hb, step_nn hs hc] at h; omega
theorem step_bd0 (s b : Int) (hs : 0 ≤ s) (hb : 0 ≤ b) : 0 ≤ stepSum s b ∧ stepSum s b < 997 := by rw [step_nn hs hb]; omega
theorem fold_inj (xs : List Int) : ∀ s t : Int, (∀ x ∈ xs, 0 ≤ x) → 0 ≤ s → s < 997 → 0 ≤ t → t < 997 → xs.foldl stepSum s = xs.foldl stepSum t → s = t := by
  induction xs with
  | nil => intro s t _ _ _ _ _ h; exact h
  | cons x r ih =>
    intro s t h0 h1 h2 h3 h4 h
    have hx := h0 x (by simp)
    have a := step_bd0 s x h1 hx
    have b := step_bd0 t x h3 hx
    exact step_inj h1 h2 h3 h4 hx (ih _ _ (fun y hy => h0 y (by simp [hy])) a.1 a.2 b.1 b.2 h)
theorem foldS_set (xs : List Int) : ∀ (k : Nat) (y s : Int), (∀ x ∈ xs, 0 ≤ x) → k < xs.length → 0 ≤ s → s < 997 → 0 ≤ el xs k → el xs k ≤ 255 → 0 ≤ y → y ≤ 255 → y ≠ el xs k → (xs.set k y).foldl stepSum s ≠ xs.foldl stepSum s := by
  induction xs with
  | nil => intro k y s _ h; simp at h
  | cons x r ih =>
    intro k y s h0 hk h1 h2 h3 h4 h5 h6 h7
    have hx0 := h0 x (by simp)
    have hr0 : ∀ z ∈ r, 0 ≤ z := fun z hz => h0 z (by simp [hz])
    cases k with
    | zero =>
      simp only [List.set_cons_zero, List.foldl_cons]
      intro h
      have a := step_bd0 s x h1 hx0
      have b := step_bd0 s y h1 h5
      have := fold_inj r _ _ hr0 b.1 b.2 a.1 a.2 h
      have hx : el (x :: r) 0 = x := rfl
      rw [hx] at h3 h4 h7
      exact h7 (step_inj2 h1 h5 h6 h3 h4 this)
    | succ k =>
      simp only [List.set_cons_succ, List.foldl_cons]
      have a := step_bd0 s x h1 hx0
      have hx : el (x :: r) (k + 1) = el r k := rfl
      rw [hx] at h3 h4 h7
      exact ih k y _ hr0 (by simpa using hk) a.1 a.2 h3 h4 h5 h6 h7
theorem part_set_same (xs : List Int) (k i : Nat) (y : Int) (h : i ≠ k / 4) : part (xs.set k y) i = part xs i := by
  unfold part
  by_cases hk : k < 4 * i
  · rw [List.drop_set_of_lt hk]
  · apply List.ext_getElem?
    intro j
    simp only [List.getElem?_take, List.getElem?_drop]
    split
    · rw [List.getElem?_set_ne (by omega)]
    · rfl
theorem part_set_at (xs : List Int) (k : Nat) (y : Int) : part (xs.set k y) (k / 4) = (part xs (k / 4)).set (k % 4) y := by
  unfold part
  apply List.ext_getElem?
  intro j
  simp only [List.getElem?_take, List.getElem?_drop, List.getElem?_set, List.length_take, List.length_drop]
  by_cases hj : j < 4
  · rw [if_pos hj, if_pos hj]
    by_cases e : k % 4 = j
    · rw [if_pos e, if_pos (by omega)]
      by_cases hk : k < xs.length
      · rw [if_pos (by omega), if_pos (by omega)]
      · rw [if_neg (by omega), if_neg (by omega)]
    · rw [if_neg e, if_neg (by omega)]
  · rw [if_neg hj, if_neg (show ¬ k % 4 = j by omega)]
    try rw [if_neg hj]
theorem damage {xs : List Int} (hx : BytesOK xs) (k : Nat) (y : Int) (hk : k < xs.length) (h0 : 0 ≤ y) (h1 : y ≤ 255) (hy : y ≠ el xs k) :
    partSum (part (xs.set k y) (k / 4)) ≠ partSum (part xs (k / 4)) := by
  rw [part_set_at]
  have e : el (part xs (k / 4)) (k % 4) = el xs k := by
    unfold part
    rw [el_take _ _ _ (by omega), el_drop, show 4 * (k / 4) + k % 4 = k by omega]
  have b := hx.2 k hk
  refine foldS_set _ (k % 4) y 11 (fun x hx' => ?_) (by rw [part_len]; omega) (by omega) (by omega) (by rw [e]; exact b.1) (by rw [e]; exact b.2) h0 h1 (by rw [e]; exact hy)
  obtain ⟨i, hi, rfl⟩ := List.getElem_of_mem (List.mem_of_mem_drop (List.mem_of_mem_take hx'))
  have := (hx.2 i hi).1
  rwa [el_eq hi] at this
theorem damage_bad {xs : List Int} (hx : BytesOK xs) (k : Nat) (y : Int) (hk : k < xs.length) (h0 : 0 ≤ y) (h1 : y ≤ 255) (hy : y ≠ el xs k) :
    badV (xs.set k y) (sumsL xs) = [((k / 4 : Nat) : Int)] := by
  have hn : nparts (xs.set k y) = nparts xs := by unfold nparts; simp
  rw [badV_yes (bytes_set hx k y hk h0 h1)]
  have hk4 : k / 4 < nparts xs := by unfold nparts; omega
  refine badTo_one _ _ _ (fun h => ?_) _ (by rw [sumsL_len, hn]; exact hk4) fun i hi hne => ?_
  · have h2 := h.2
    rw [el_sumsL _ _ hk4, el_sumsL _ _ (by rw [hn]; exact hk4)] at h2
    exact damage hx k y hk h0 h1 hy h2.symm
  · rw [sumsL_len, hn] at hi
    refine ⟨by rw [sumsL_len]; exact hi, ?_⟩
    rw [el_sumsL _ _ hi, el_sumsL _ _ (by rw [hn]; exact hi), part_set_same _ _ _ _ hne]
theorem damage_sums {xs : List Int} (hx : BytesOK xs) (k : Nat) (y : Int) (hk : k < xs.length) (h0 : 0 ≤ y) (h1 : y ≤ 255) (hy : y ≠ el xs k) : sumsL (xs.set k y) ≠ sumsL xs := by
  intro h
  have h2 := damage_bad hx k y hk h0 h1 hy
  rw [badV_yes (bytes_set hx k y hk h0 h1), h, badL_self] at h2
  cases h2

/-! writing -/
def writeL (bs : List Int) (at_ : Nat) (fr : List Int) : List Int := bs.take at_ ++ fr ++ bs.drop (at_ + fr.length)
def WriteOK (bs ss : List Int) (at_ : Int) (fr : List Int) : Prop := BytesOK bs ∧ BytesOK fr ∧ 0 ≤ at_ ∧ at_ ≤ bs.length ∧ at_ + fr.length ≤ 16 ∧ sumsL bs = ss
noncomputable def writeV (bs ss : List Int) (at_ : Int) (fr : List Int) : List Int := bif dec (WriteOK bs ss at_ fr) then writeL bs at_.toNat fr else []
noncomputable def writeS (bs ss : List Int) (at_ : Int) (fr : List Int) : List Int := bif dec (WriteOK bs ss at_ fr) then sumsL (writeL bs at_.toNat fr) else []
section
variable {bs ss fr : List Int} {at_ : Int}
theorem writeV_yes (h : WriteOK bs ss at_ fr) : writeV bs ss at_ fr = writeL bs at_.toNat fr := by unfold writeV; rw [dec_yes h]; rfl
theorem writeV_no (h : ¬WriteOK bs ss at_ fr) : writeV bs ss at_ fr = [] := by unfold writeV; rw [dec_no h]; rfl
theorem writeS_yes (h : WriteOK bs ss at_ fr) : writeS bs ss at_ fr = sumsL (writeL bs at_.toNat fr) := by unfold writeS; rw [dec_yes h]; rfl
theorem writeS_no (h : ¬WriteOK bs ss at_ fr) : writeS bs ss at_ fr = [] := by unfold writeS; rw [dec_no h]; rfl
end
theorem writeL_len {bs fr : List Int} {a : Nat} (h : a ≤ bs.length) : (writeL bs a fr).length = max bs.length (a + fr.length) := by
  unfold writeL; simp; omega
theorem writeL_el {bs fr : List Int} {a j : Nat} (h : a ≤ bs.length) : el (writeL bs a fr) j = if j < a then el bs j else if j < a + fr.length then el fr (j - a) else el bs j := by
  unfold writeL
  have h1 : (bs.take a).length = a := by simp; omega
  simp only [el, List.getD_eq_getElem?_getD]
  by_cases c1 : j < a
  · rw [if_pos c1, List.append_assoc, List.getElem?_append_left (by omega), List.getElem?_take, if_pos c1]
  · rw [if_neg c1]
    by_cases c2 : j < a + fr.length
    · rw [if_pos c2, List.append_assoc, List.getElem?_append_right (by omega), h1, List.getElem?_append_left (by omega)]
    · rw [if_neg c2, List.getElem?_append_right (by simp; omega), List.getElem?_drop]
      congr 2
      simp; omega
theorem writeL_ok {bs fr : List Int} {a : Nat} (hb : BytesOK bs) (hf : BytesOK fr) (h : a ≤ bs.length) (h16 : a + fr.length ≤ 16) : BytesOK (writeL bs a fr) := by
  refine ⟨by rw [writeL_len h]; have := hb.1; omega, fun j hj => ?_⟩
  rw [writeL_len h] at hj
  rw [writeL_el h]
  split
  · exact hb.2 j (by omega)
  · split
    · exact hf.2 _ (by omega)
    · exact hb.2 j (by omega)
theorem writeV_le (bs ss : List Int) (at_ : Int) (fr : List Int) : (writeV bs ss at_ fr).length ≤ 16 := by
  by_cases h : WriteOK bs ss at_ fr
  · rw [writeV_yes h]
    obtain ⟨h1, h2, h3, h4, h5, h6⟩ := h
    exact (writeL_ok h1 h2 (by omega) (by omega)).1
  · rw [writeV_no h]; simp
theorem writeS_le (bs ss : List Int) (at_ : Int) (fr : List Int) : (writeS bs ss at_ fr).length ≤ 4 := by
  by_cases h : WriteOK bs ss at_ fr
  · rw [writeS_yes h]
    obtain ⟨h1, h2, h3, h4, h5, h6⟩ := h
    have := (writeL_ok h1 h2 (a := at_.toNat) (by omega) (by omega)).1
    rw [sumsL_len]
    unfold nparts
    omega
  · rw [writeS_no h]; simp
theorem writeL_mid {bs fr : List Int} {a : Nat} (h : a ≤ bs.length) : ((writeL bs a fr).take (a + fr.length)).drop a = fr := by
  have h1 : (bs.take a).length = a := by simp; omega
  unfold writeL
  rw [List.take_append_of_le_length (by simp; omega), List.take_of_length_le (by simp; omega), List.drop_append, List.drop_of_length_le (by omega), h1]
  simp
theorem writeL_head {bs fr : List Int} {a : Nat} (h : a ≤ bs.length) : (writeL bs a fr).take a = bs.take a := by
  have h1 : (bs.take a).length = a := by simp; omega
  unfold writeL
  rw [List.append_assoc, List.take_append_of_le_length (by omega), List.take_of_length_le (by omega)]
theorem writeL_tail {bs fr : List Int} {a : Nat} (h : a ≤ bs.length) : (writeL bs a fr).drop (a + fr.length) = bs.drop (a + fr.length) := by
  have h1 : (bs.take a ++ fr).length = a + fr.length := by simp; omega
  unfold writeL
  rw [List.drop_append, List.drop_of_length_le (by omega), h1]
  simp
theorem writeL_short {bs fr : List Int} {a : Nat} (h : bs.length ≤ a + fr.length) : bs.take a ++ fr = writeL bs a fr := by
  unfold writeL
  rw [List.drop_of_length_le h, List.append_nil]
theorem written {xs fr : List Int} {a d q1 q2 : Nat} (ha : a ≤ xs.length) (hd : d = max xs.length (a + fr.length)) (hq1 : q1 = min xs.length d) (hq2 : q2 = min fr.length (d - a)) :
    ((List.replicate d default).take 0 ++ xs.take q1 ++ (List.replicate d default).drop (0 + q1)).take a ++ fr.take q2 ++ ((List.replicate d default).take 0 ++ xs.take q1 ++ (List.replicate d default).drop (0 + q1)).drop (a + q2) = writeL xs a fr := by
  have e1 : q1 = xs.length := by omega
  have e2 : q2 = fr.length := by omega
  subst e1 e2
  rw [List.take_zero, List.nil_append, Nat.zero_add, List.take_of_length_le (Nat.le_refl xs.length), List.take_of_length_le (Nat.le_refl fr.length), List.drop_replicate]
  unfold writeL
  rw [List.take_append_of_le_length ha]
  congr 1
  by_cases h : a + fr.length ≤ xs.length
  · rw [show d - xs.length = 0 by omega]
    simp
  · rw [List.drop_of_length_le (by simp; omega), List.drop_of_length_le (by omega)]
theorem write_back {bs fr : List Int} {a : Nat} (h : a + fr.length ≤ bs.length) : writeL (writeL bs a fr) a ((bs.take (a + fr.length)).drop a) = bs := by
  have hl : ((bs.take (a + fr.length)).drop a).length = fr.length := by simp; omega
  have h0 : (writeL bs a fr).take a = bs.take a := writeL_head (by omega)
  have h2 : (writeL bs a fr).drop (a + fr.length) = bs.drop (a + fr.length) := writeL_tail (by omega)
  have e : ∀ ys : List Int, writeL ys a ((bs.take (a + fr.length)).drop a) = ys.take a ++ (bs.take (a + fr.length)).drop a ++ ys.drop (a + fr.length) := fun ys => by unfold writeL; rw [hl]
  rw [e, h0, h2]
  have h3 : bs.take a = (bs.take (a + fr.length)).take a := by rw [List.take_take, Nat.min_eq_left (by omega)]
  rw [h3, List.take_append_drop, List.take_append_drop]
end Go.Proofs.Ythgnnpafieifmaa

/-
  Plain: places and scores. No conditions; no program in sight.
-/
import Derived.Test.YtielahdnccocdaaKinds
namespace Go.Proofs.Ytielahdnccocdaa
open Go Go.RowKit
set_option linter.unusedVariables false

theorem sq_bd (x m : Int) (h0 : 0 ≤ x) (h1 : x ≤ m) : 0 ≤ x * x ∧ x * x ≤ m * m :=
  ⟨Int.mul_nonneg h0 h0, Int.mul_le_mul h1 h1 h0 (by omega)⟩

def mixP (a b : Int) : Int := ((131 * a + 17 * b + 7) * (131 * a + 17 * b + 7) + 3 * (131 * a + 17 * b + 7)) % 9973
theorem mixP_bd (a b : Int) : 0 ≤ mixP a b ∧ mixP a b < 9973 := by unfold mixP; omega
def scoreOf (a b : Int) : Int := if 1 ≤ a ∧ a ≤ 99 ∧ 1 ≤ b ∧ b ≤ 99 then mixP a b else -1
theorem scoreOf_bd (a b : Int) : -1 ≤ scoreOf a b ∧ scoreOf a b < 9973 := by
  unfold scoreOf
  have := mixP_bd a b
  split <;> omega
theorem scoreOf_yes {a b : Int} (h : 1 ≤ a ∧ a ≤ 99 ∧ 1 ≤ b ∧ b ≤ 99) : scoreOf a b = mixP a b := if_pos h
theorem scoreOf_no {a b : Int} (h : ¬(1 ≤ a ∧ a ≤ 99 ∧ 1 ≤ b ∧ b ≤ 99)) : scoreOf a b = -1 := if_neg h

/-- the elements are ids that ascend -/
def IdsOK (xs : List Int) : Prop := ∀ j, j < xs.length → (1 ≤ el xs j ∧ el xs j ≤ 99) ∧ (0 < j → el xs ((j : Int) - 1).toNat < el xs j)
def ServersOK (xs : List Int) : Prop := xs.length ≤ 8 ∧ IdsOK xs
theorem el_app {α : Type} [Inhabited α] (xs ys : List α) (j : Nat) : el (xs ++ ys) j = if j < xs.length then el xs j else el ys (j - xs.length) := by
  unfold el
  simp only [List.getD_eq_getElem?_getD]
  by_cases h : j < xs.length
  · rw [if_pos h, List.getElem?_append_left h]
  · rw [if_neg h, List.getElem?_append_right (by omega)]
theorem ids_mono {xs : List Int} (h : IdsOK xs) {i j : Nat} (hij : i < j) (hj : j < xs.length) : el xs i < el xs j := by
  induction j with
  | zero => omega
  | succ j ih =>
    have h1 := (h (j + 1) hj).2 (by omega)
    rw [show ((j + 1 : Nat) : Int) - 1 = (j : Int) by omega, Int.toNat_natCast] at h1
    by_cases e : i = j
    · subst e; exact h1
    · have := ih (by omega) (by omega); omega
theorem ids_of {xs : List Int} (h1 : ∀ j, j < xs.length → 1 ≤ el xs j ∧ el xs j ≤ 99) (h2 : ∀ j, j + 1 < xs.length → el xs j < el xs (j + 1)) : IdsOK xs := fun j hj =>
  ⟨h1 j hj, fun h0 => by
    have := h2 (j - 1) (by omega)
    rw [show j - 1 + 1 = j by omega] at this
    rwa [show ((j : Int) - 1).toNat = j - 1 by omega]⟩
theorem ok_without {xs : List Int} (h : ServersOK xs) {d e : Nat} (he : e = d + 1) (hd : d < xs.length) : ServersOK (xs.take d ++ xs.drop e) := by
  subst he
  obtain ⟨h0, h⟩ := h
  have hl : (xs.take d ++ xs.drop (d + 1)).length = xs.length - 1 := by simp; omega
  have ht : (xs.take d).length = d := by simp; omega
  have he : ∀ j, el (xs.take d ++ xs.drop (d + 1)) j = if j < d then el xs j else el xs (j + 1) := fun j => by
    rw [el_app, ht]
    by_cases hj : j < d
    · rw [if_pos hj, if_pos hj, el_take _ _ _ hj]
    · rw [if_neg hj, if_neg hj, el_drop, show d + 1 + (j - d) = j + 1 by omega]
  refine ⟨by omega, ids_of (fun j hj => ?_) (fun j hj => ?_)⟩
  · rw [he]
    split
    · exact (h j (by omega)).1
    · exact (h (j + 1) (by omega)).1
  · rw [he, he]
    split <;> split <;> exact ids_mono h (by omega) (by omega)
theorem bad_twice {xs : List Int} {d e : Nat} (he : e = d + 1) (hd : d < xs.length) : ¬ServersOK (xs.take e ++ xs.drop d) := by
  subst he
  intro h
  have ht : (xs.take (d + 1)).length = d + 1 := by simp; omega
  have hl : (xs.take (d + 1) ++ xs.drop d).length = xs.length + 1 := by simp; omega
  have h1 := ids_mono h.2 (i := d) (j := d + 1) (by omega) (by omega)
  rw [el_app, el_app, ht, if_pos (by omega), if_neg (by omega), el_take _ _ _ (by omega), el_drop] at h1
  simp at h1
end Go.Proofs.Ytielahdnccocdaa

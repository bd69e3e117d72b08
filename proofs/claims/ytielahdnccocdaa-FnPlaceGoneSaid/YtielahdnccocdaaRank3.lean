/-
  Plain: the best servers have a piece; a list of servers without one of them. No conditions; no program in sight.
-/
import Derived.Test.YtielahdnccocdaaRank2
namespace Go.Proofs.Ytielahdnccocdaa
open Go Go.RowKit
set_option linter.unusedVariables false

section
variable {p : Int} {l : List Int} {m k : Int}
theorem place_score (h : PlaceOK p l m) {x : Int} (hx : x ∈ l) : scoreOf p x = mixP p x := by
  obtain ⟨j, hj, rfl⟩ := mem_el.1 hx
  exact scoreOf_yes (by have := h.1; have := (h.2.1.2 j hj).1; omega)
theorem place_mem (h : PlaceOK p l m) {i : Nat} (hi : i < m.toNat) : el (placeV p l m) i ∈ l := (place_at h hi).1
theorem best_step (h : PlaceOK p l m) {i j : Nat} (hj : j + 1 = i) (hi : i < m.toNat) : ¬scoreOf p (el (placeV p l m) j) < scoreOf p (el (placeV p l m) i) := by
  rw [place_score h (place_mem h hi), place_score h (place_mem h (i := j) (by omega))]
  have hl := rankP_len p l
  have := h.2.2
  have hs := rankP_sorted p l (ids_nodup h.2.1.2)
  rw [List.pairwise_iff_getElem] at hs
  have := hs j i (by omega) (by omega) (by omega)
  rw [(place_el h hi).1, (place_el h (i := j) (by omega)).1, el_eq (by omega), el_eq (by omega)]
  unfold Bet at this
  omega
theorem best_other (h : PlaceOK p l m) {i j : Nat} (hi : i < m.toNat) (hj : j < l.length) (hn : el l j ∉ placeV p l m) : ¬scoreOf p (el (placeV p l m) i) < scoreOf p (el l j) := by
  rw [place_score h (place_mem h hi), place_score h (el_mem hj)]
  rcases (place_at h hi).2.2 (el l j) (el_mem hj) (fun h9 => hn (List.mem_of_mem_take h9)) with e | e
  · rw [e]; omega
  · unfold Bet at e; omega
end
/-! one of the list less -/
theorem take_erase {x : Int} {l : List Int} {m : Nat} (hm : m ≤ l.length) (hx : x ∉ l.take m) : (l.erase x).take m = l.take m := by
  have e : l.erase x = l.take m ++ (l.drop m).erase x := by
    rw [← List.erase_append_right _ hx, List.take_append_drop]
  rw [e]
  exact List.take_left' (by rw [List.length_take]; omega)
theorem mem_erase_take {x y : Int} {l : List Int} {m : Nat} (hm : m ≤ l.length) (hy : y ∈ l.take m) (hne : y ≠ x) : y ∈ (l.erase x).take m := by
  by_cases hx : x ∈ l.take m
  · have e : l.erase x = (l.take m).erase x ++ l.drop m := by
      rw [← List.erase_append_left _ hx, List.take_append_drop]
    rw [e, List.take_append, List.mem_append]
    left
    rw [List.take_of_length_le (by have := List.length_erase_of_mem hx; have := List.length_take_le m l; omega)]
    exact (List.mem_erase_of_ne hne).2 hy
  · rw [take_erase hm hx]; exact hy
theorem rank_without {p : Int} {l : List Int} (h : IdsOK l) {d : Nat} (hd : d < l.length) (h2 : IdsOK (l.take d ++ l.drop (d + 1))) : rankP p (l.take d ++ l.drop (d + 1)) = (rankP p l).erase (el l d) := by
  have e : l = l.take d ++ el l d :: l.drop (d + 1) := by rw [el_eq hd, ← List.drop_eq_getElem_cons hd, List.take_append_drop]
  have hp : (el l d :: (l.take d ++ l.drop (d + 1))).Perm l := by
    have := List.perm_middle (a := el l d) (l₁ := l.take d) (l₂ := l.drop (d + 1))
    rw [← e] at this
    exact this.symm
  refine rank_unique (rankP_sorted p _ (ids_nodup h2)) ((rankP_sorted p l (ids_nodup h)).sublist List.erase_sublist) ?_
  have h9 := (rankP_perm p (l.take d ++ l.drop (d + 1)))
  have h8 := hp.erase (el l d)
  rw [List.erase_cons_head] at h8
  exact h9.trans (h8.trans ((rankP_perm p l).erase (el l d)).symm)
section
variable {p : Int} {l : List Int} {m : Int} {d e : Nat}
theorem less_ok (h : PlaceOK p l m) (he : e = d + 1) (hd : d < l.length) (hm : m < l.length) : PlaceOK p (l.take d ++ l.drop e) m :=
  ⟨h.1, ok_without h.2.1 he hd, h.2.2.1, by simp; omega⟩
theorem less_same (h : PlaceOK p l m) (he : e = d + 1) (hd : d < l.length) (hn : el l d ∉ placeV p l m) : PlaceOK p (l.take d ++ l.drop e) m ∧ placeV p (l.take d ++ l.drop e) m = placeV p l m := by
  have hl := rankP_len p l
  have h3 := h.2.2
  have hm : m < l.length := by
    apply Classical.byContradiction
    intro h9
    apply hn
    rw [placeV_yes h, List.take_of_length_le (by omega)]
    exact rankP_mem.2 (el_mem hd)
  have hk := less_ok h he hd hm
  refine ⟨hk, ?_⟩
  rw [placeV_yes h] at hn
  rw [placeV_yes h, placeV_yes hk]
  subst he
  rw [rank_without h.2.1.2 hd hk.2.1.2, take_erase (by omega) hn]
theorem less_mem (h : PlaceOK p l m) (he : e = d + 1) (hd : d < l.length) (hm : m < l.length) {i : Nat} (hi : i < m.toNat) (hne : el (placeV p l m) i ≠ el l d) : el (placeV p l m) i ∈ placeV p (l.take d ++ l.drop e) m := by
  have hl := rankP_len p l
  have hk := less_ok h he hd hm
  have hy : el (placeV p l m) i ∈ placeV p l m := el_mem (by rw [place_len h]; exact hi)
  rw [placeV_yes hk]
  generalize el (placeV p l m) i = y at *
  rw [placeV_yes h] at hy
  subst he
  rw [rank_without h.2.1.2 hd hk.2.1.2]
  exact mem_erase_take (by omega) hy hne
end
end Go.Proofs.Ytielahdnccocdaa

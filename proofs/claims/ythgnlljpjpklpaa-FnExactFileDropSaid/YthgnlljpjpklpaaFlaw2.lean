/-
  Plain: what was made can be dropped, and what was dropped can be made again. No conditions; no program in sight.
-/
import Derived.Test.YthgnlljpjpklpaaFops
namespace Go.Proofs.Ythgnlljpjpklpaa
open Go Go.RowKit
set_option linter.unusedVariables false
set_option linter.unusedSimpArgs false

section
variable {fs : List FV} {s : ByteArray} {p : Nat}
theorem el_ins {α : Type} [Inhabited α] {l : List α} {p : Nat} (hp : p ≤ l.length) (x : α) (j : Nat) : el (l.take p ++ x :: l.drop p) j = if j < p then el l j else if j = p then x else el l (j - 1) := by
  have ht : (l.take p).length = p := by simp; omega
  rw [el_appF, ht]
  by_cases h : j < p
  · rw [if_pos h, if_pos h, el_take _ _ _ h]
  · rw [if_neg h, if_neg h]
    by_cases h2 : j = p
    · subst h2; rw [if_pos rfl, Nat.sub_self]; rfl
    · rw [if_neg h2]
      have e : el (x :: l.drop p) (j - p) = el (l.drop p) (j - p - 1) := by
        obtain ⟨m, hm⟩ : ∃ m, j - p = m + 1 := ⟨j - p - 1, by omega⟩
        rw [hm]; rfl
      rw [e, el_drop, show p + (j - p - 1) = j - 1 by omega]
theorem drop_at (h : DropOK fs s) : ∃ p : Nat, fplace fs s = (p : Int) ∧ p < fs.length ∧ (el fs p).1 = s ∧ dropV fs s = fs.take p ++ fs.drop (p + 1) ∧ dropP fs s = (el fs p).2 := by
  obtain ⟨p, hp⟩ : ∃ p : Nat, fplace fs s = (p : Int) := ⟨(fplace fs s).toNat, by have := h.2; omega⟩
  obtain ⟨a, b, c⟩ := fplace_nm hp
  exact ⟨p, hp, a, b, by rw [dropV_yes h, dropF_eq hp], dropP_eq h hp⟩
theorem drop_names (h : DropOK fs s) : ∀ j, j < (dropV fs s).length → (el (dropV fs s) j).1 ≠ s := by
  obtain ⟨p, hp, hl, hn, hv, _⟩ := drop_at h
  intro j hj he
  rw [hv] at hj he
  have hlen : (fs.take p ++ fs.drop (p + 1)).length = fs.length - 1 := by simp; omega
  rw [el_less hl] at he
  split at he
  · have := place_one h.1 (i := j) (j := p) (by omega) hl (by rw [he, hn]); omega
  · have := place_one h.1 (i := j + 1) (j := p) (by omega) hl (by rw [he, hn]); omega
theorem drop_again (h : DropOK fs s) : ¬DropOK (dropV fs s) s := fun h2 => by
  rcases fplace_cases (dropV fs s) s with ⟨h3, _⟩ | ⟨k, h3, h4, h5, _⟩
  · have := h2.2; omega
  · exact drop_names h k h4 h5
theorem drop_fok (h : DropOK fs s) : FOK (dropV fs s) := by
  obtain ⟨p, hp, hl, hn, hv, _⟩ := drop_at h
  rw [hv]
  exact fok_less h.1 rfl hl
theorem drop_make (h : DropOK fs s) : MakeOK (dropV fs s) s ∧ (makeV (dropV fs s) s).length = fs.length := by
  obtain ⟨p, hp, hl, hn, hv, _⟩ := drop_at h
  have h1 : FOK (dropV fs s) := drop_fok h
  have h2 : fplace (dropV fs s) s < 0 := by rw [fplace_no (drop_names h)]; omega
  have hlen : (fs.take p ++ fs.drop (p + 1)).length = fs.length - 1 := by simp; omega
  have htake : (fs.take p ++ fs.drop (p + 1)).take p = fs.take p := List.take_left' (by simp; omega)
  have hdrop : (fs.take p ++ fs.drop (p + 1)).drop p = fs.drop (p + 1) := List.drop_left' (by simp; omega)
  have hi : insF (dropV fs s) s = fs.take p ++ (s, []) :: fs.drop (p + 1) := by
    rw [ins_at (p := p) (by rw [hv]; omega) (fun j hj => by rw [hv, el_less hl, if_pos hj, ← hn]; exact asc_lt h.1.asc hj hl) (fun hpl => by
      rw [hv] at hpl ⊢
      rw [el_less hl, if_neg (by omega), ← hn]
      exact slt_asym (asc_lt h.1.asc (by omega) (by omega))), hv, htake, hdrop]
  have hel : ∀ j, el (fs.take p ++ (s, []) :: fs.drop (p + 1)) j = if j = p then (s, []) else el fs j := fun j => by
    have hd : fs.take p ++ (s, ([] : List Int)) :: fs.drop (p + 1) = (dropV fs s).take p ++ (s, []) :: (dropV fs s).drop p := by rw [hv, htake, hdrop]
    rw [hd, el_ins (by rw [hv]; omega), hv, el_less hl, el_less hl]
    by_cases e1 : j < p
    · rw [if_pos e1, if_pos e1, if_neg (show ¬ j = p by omega)]
    · rw [if_neg e1]
      by_cases e2 : j = p
      · rw [if_pos e2, if_pos e2]
      · rw [if_neg e2, if_neg (show ¬ j - 1 < p by omega), show j - 1 + 1 = j by omega, if_neg e2]
  have hl2 : (fs.take p ++ (s, ([] : List Int)) :: fs.drop (p + 1)).length = fs.length := by simp; omega
  have h8 := h.1.len
  have hf : FOK (fs.take p ++ (s, []) :: fs.drop (p + 1)) := by
    refine ⟨by omega, fun i hi => ?_, fun i j hij hi => ?_, ?_⟩
    · rw [hel]
      split
      · have := h.1.file p hl
        rw [← hn]
        exact ⟨this.1, Nat.zero_le _, fun k hk => by simp at hk⟩
      · exact h.1.file i (by omega)
    · have key : ∀ k, (el (fs.take p ++ (s, ([] : List Int)) :: fs.drop (p + 1)) k).1 = (el fs k).1 := fun k => by
        rw [hel]
        split
        · subst_vars; rfl
        · rfl
      rw [key, key]
      exact h.1.asc i j hij (by omega)
    · have h9 := h.1.once
      rw [pcs_less hl] at h9
      rw [pcs_app]
      exact h9.sublist ((List.Sublist.refl _).append (by
        show ([] ++ pcs (fs.drop (p + 1))).Sublist _
        exact List.sublist_append_right _ _))
  have hok : MakeOK (dropV fs s) s := ⟨h1, h2, by rw [hi]; exact hf⟩
  exact ⟨hok, by rw [makeV_yes hok, hi, hl2]⟩
theorem make_at (h : MakeOK fs s) : ∃ p : Nat, p ≤ fs.length ∧ makeV fs s = fs.take p ++ (s, []) :: fs.drop p ∧ fplace (makeV fs s) s = (p : Int) := by
  have hp := ipos_le s fs
  have hv : makeV fs s = fs.take (ipos fs s) ++ (s, []) :: fs.drop (ipos fs s) := makeV_yes h
  refine ⟨ipos fs s, hp, hv, ?_⟩
  rw [hv]
  refine fplace_at (by simp; omega) (by rw [el_ins hp, if_neg (by omega), if_pos rfl]) fun j hj => ?_
  rw [el_ins hp, if_pos hj]
  exact fplace_none h.2.1 j (by omega)
theorem make_fok (h : MakeOK fs s) : FOK (makeV fs s) := by rw [makeV_yes h]; exact h.2.2
theorem make_drop (h : MakeOK fs s) : DropOK (makeV fs s) s ∧ dropP (makeV fs s) s = [] ∧ dropV (makeV fs s) s = fs ∧ ¬MakeOK (makeV fs s) s := by
  obtain ⟨p, hp, hv, hpl⟩ := make_at h
  have hd : DropOK (makeV fs s) s := ⟨make_fok h, by omega⟩
  have ht : (fs.take p).length = p := by simp; omega
  refine ⟨hd, ?_, ?_, fun h9 => by have := h9.2.1; omega⟩
  · rw [dropP_eq hd hpl, hv, el_ins hp, if_neg (by omega), if_pos rfl]
  · rw [dropV_yes hd, dropF_eq hpl, hv, List.take_left' ht]
    have : (fs.take p ++ (s, ([] : List Int)) :: fs.drop p).drop (p + 1) = fs.drop p := by
      rw [List.drop_append, List.drop_of_length_le (by omega), ht, show p + 1 - p = 1 by omega]; rfl
    rw [this, List.take_append_drop]
theorem make_len (h : MakeOK fs s) : (makeV fs s).length = fs.length + 1 := by
  obtain ⟨p, hp, hv, _⟩ := make_at h
  rw [hv]; simp; omega
end
end Go.Proofs.Ythgnlljpjpklpaa

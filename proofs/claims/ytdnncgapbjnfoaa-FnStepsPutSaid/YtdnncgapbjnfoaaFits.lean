/-
  Plain: when the reads of steps fit the writes before them. No conditions; no program in sight.
-/
import Derived.Test.YtdnncgapbjnfoaaSteps
import Derived.Test.YtdnncgapbjnfoaaDrawn
namespace Go.Proofs.Ytdnncgapbjnfoaa
open Go Go.RowKit
set_option linter.unusedVariables false

theorem join_as {K : Env → World → Prop} {E : Env} {l : List (Nat × Value)} {w : World} (hE : Agree E l) (h : K (over E l) w) : K E w := by
  rw [over_self hE] at h; exact h
theorem runL_append (xs : List Int) (a b : List Bt) : runL xs (a ++ b) = runL (runL xs a) b := by unfold runL; rw [List.foldl_append]
/-- the state behind the first j steps -/
def stAt (hs : List Stp) (j : Nat) : List Int := runL empty5 (upds (hs.take j))
theorem stAt_zero (hs : List Stp) : stAt hs 0 = empty5 := rfl
theorem stAt_len (hs : List Stp) (j : Nat) : (stAt hs j).length = 5 := by unfold stAt; rw [runL_len]; rfl
def GoodL (hs : List Stp) : Prop := ∀ j, j < hs.length → (el hs j).r = true → el (stAt hs j) (el hs j).k.toNat = (el hs j).v
def FitsOK (hs : List Stp) : Prop := StepsOK hs ∧ GoodL hs
theorem el_left {a : List Stp} {s : Stp} {j : Nat} (h : j < a.length) : el (a ++ [s]) j = el a j := by
  simp [el, List.getD_eq_getElem?_getD, List.getElem?_append_left h]
theorem el_last {a : List Stp} {s : Stp} : el (a ++ [s]) a.length = s := by
  simp [el, List.getD_eq_getElem?_getD]
theorem stAt_left {a : List Stp} {s : Stp} {j : Nat} (h : j ≤ a.length) : stAt (a ++ [s]) j = stAt a j := by
  unfold stAt; rw [List.take_append_of_le_length h]
theorem stAt_all {a : List Stp} {j : Nat} (h : a.length ≤ j) : stAt a j = runL empty5 (upds a) := by unfold stAt; rw [List.take_of_length_le h]
theorem good_nil : GoodL [] := fun j h => by simp at h
theorem good_snoc {l : List Stp} {s : Stp} : GoodL (l ++ [s]) ↔ GoodL l ∧ (s.r = true → el (runL empty5 (upds l)) s.k.toNat = s.v) := by
  constructor
  · intro h
    refine ⟨fun j hj hr => ?_, fun hr => ?_⟩
    · have := h j (by simp; omega)
      rw [el_left hj, stAt_left (by omega)] at this
      exact this hr
    · have := h l.length (by simp)
      rw [el_last, stAt_left (Nat.le_refl _), stAt_all (Nat.le_refl _)] at this
      exact this hr
  · rintro ⟨h1, h2⟩ j hj hr
    simp only [List.length_append, List.length_singleton] at hj
    by_cases hjl : j < l.length
    · rw [el_left hjl] at hr ⊢
      rw [stAt_left (by omega)]
      exact h1 j hjl hr
    · have : j = l.length := by omega
      subst this
      rw [el_last] at hr ⊢
      rw [stAt_left (Nat.le_refl _), stAt_all (Nat.le_refl _)]
      exact h2 hr
theorem good_pre {a hs : List Stp} (hp : a <+: hs) (h : GoodL hs) : GoodL a := fun j hj hr => by
  obtain ⟨b, rfl⟩ := hp
  have e : el (a ++ b) j = el a j := by simp [el, List.getD_eq_getElem?_getD, List.getElem?_append_left hj]
  have := h j (by simp; omega)
  rw [e] at this
  have e2 : stAt (a ++ b) j = stAt a j := by unfold stAt; rw [List.take_append_of_le_length (by omega)]
  rw [e2] at this
  exact this hr
theorem set_same {xs : List Int} {k : Nat} {v : Int} (hk : k < xs.length) (h : el xs k = v) : xs.set k v = xs := by
  subst h
  refine eq_of_el (by simp) fun j hj => ?_
  rw [el_set _ _ _ _ hk]
  split
  · rename_i h; rw [h]
  · rfl
theorem state_next {hs : List Stp} {k : Nat} (hk : k < hs.length) (ho : 0 ≤ (el hs k).k ∧ (el hs k).k ≤ 4) (h : (el hs k).r = true → el (stAt hs k) (el hs k).k.toNat = (el hs k).v) :
    (stAt hs k).set (el hs k).k.toNat (el hs k).v = stAt hs (k + 1) := by
  cases hr : (el hs k).r with
  | true =>
    rw [set_same (by rw [stAt_len]; omega) (h hr)]
    unfold stAt
    rw [upds_take_read hk hr]
  | false =>
    unfold stAt
    rw [upds_take_put hk hr, runL_append]
    rfl
theorem good_of {hs : List Stp} {k : Nat} (hk : hs.length ≤ k) (h : ∀ j, j < k → (el hs j).r = true → el (stAt hs j) (el hs j).k.toNat = (el hs j).v) : GoodL hs := fun j hj => h j (by omega)
/-! in a round -/
theorem run_put {l : List Stp} {s : Stp} (h : s.r = false) : runL empty5 (upds (l ++ [s])) = (runL empty5 (upds l)).set s.k.toNat s.v := by
  rw [upds_snoc, h, runL_append]; rfl
theorem run_read {l : List Stp} {s : Stp} (h : s.r = true) : runL empty5 (upds (l ++ [s])) = runL empty5 (upds l) := by
  rw [upds_snoc, h]; simp
theorem run_len5 (u : List Bt) : (runL empty5 u).length = 5 := by rw [runL_len]; rfl
theorem itm_ok {hs : List Stp} (h : StepsOK hs) (x : Itm hs) : StepOK x.1.2 := by
  obtain ⟨i, hi, e⟩ := x.2
  rw [e]; exact h.each i hi
/-! steps added -/
theorem ok_snoc {l : List Stp} {s : Stp} (h : StepsOK l) (hl : l.length < 20) (hs : StepOK s) (hr : s.r = true) : StepsOK (l ++ [s]) := by
  refine ⟨by simp; omega, fun i hi => ?_, by rw [puts_snoc, hr]; exact h.few⟩
  simp only [List.length_append, List.length_singleton] at hi
  by_cases hil : i < l.length
  · rw [el_left hil]; exact h.each i hil
  · have : i = l.length := by omega
    subst this
    rw [el_last]; exact hs
theorem put_read {l : List Stp} (hf : FitsOK l) (hl : l.length ≤ 17) (hv : StepsOK (l ++ [⟨false, 1, 7⟩])) :
    FitsOK ((l ++ [⟨false, 1, 7⟩]) ++ [⟨true, 1, 7⟩]) ∧ ¬FitsOK ((l ++ [⟨false, 1, 7⟩]) ++ [⟨true, 1, 8⟩]) := by
  have hg : GoodL (l ++ [⟨false, 1, 7⟩]) := good_snoc.2 ⟨hf.2, fun h => by cases h⟩
  have hst : el (runL empty5 (upds (l ++ [⟨false, 1, 7⟩]))) 1 = 7 := by
    rw [run_put rfl]
    show el ((runL empty5 (upds l)).set 1 7) 1 = 7
    rw [el_set _ _ _ _ (by rw [run_len5]; omega), if_pos rfl]
  constructor
  · refine ⟨ok_snoc hv (by simp; omega) (stepok_iff.2 ⟨by decide, fun _ => (by decide), fun h => (by cases h), by decide⟩) rfl, good_snoc.2 ⟨hg, fun _ => hst⟩⟩
  · intro h
    have h2 := (good_snoc.1 h.2).2 rfl
    have h3 : el (runL empty5 (upds (l ++ [⟨false, 1, 7⟩]))) 1 = 8 := h2
    rw [hst] at h3
    cases h3
/-! the state of a log -/
theorem ok_take {hs : List Stp} (h : StepsOK hs) (k : Nat) : StepsOK (hs.take k) := by
  refine ⟨by have := h.len; simp; omega, fun i hi => ?_, ?_⟩
  · simp only [List.length_take] at hi
    rw [el_take _ _ _ (by omega)]
    exact h.each i (by omega)
  · have h1 := upds_append (hs.take k) (hs.drop k)
    rw [List.take_append_drop] at h1
    have h2 := congrArg List.length h1
    rw [List.length_append, upds_len, upds_len] at h2
    have := h.few
    omega
theorem state_log {hs : List Stp} (h : StepsOK hs) (k : Nat) : stateV (logV (hs.take k)) (logV (hs.take k)).length = stAt hs k := by
  have h1 := ok_take h k
  rw [stateV_yes ⟨logok_steps h1, by omega, by omega⟩, Int.toNat_natCast, List.take_length, logV_yes h1]
  rfl
end Go.Proofs.Ytdnncgapbjnfoaa

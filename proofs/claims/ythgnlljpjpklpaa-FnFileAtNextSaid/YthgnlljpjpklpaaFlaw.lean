/-
  Plain: what the laws on files say. No conditions; no program in sight.
-/
import Derived.Test.YthgnlljpjpklpaaDeep
namespace Go.Proofs.Ythgnlljpjpklpaa
open Go Go.RowKit
set_option linter.unusedVariables false

theorem at_in {hs : List Fl} {s : ByteArray} {a : Int} (h : AtOK (fvs hs) s a) {i : Nat} (hi : i < hs.length) (he : (el hs i).nm = s) :
    0 ≤ a ∧ a / 64 < (el hs i).ps.length ∧ atN (fvs hs) s a = el (el hs i).ps (a / 64).toNat := by
  obtain ⟨h1, h2, h3, h4⟩ := id h
  obtain ⟨k, hk⟩ : ∃ k : Nat, fplace (fvs hs) s = (k : Int) := ⟨(fplace (fvs hs) s).toNat, by omega⟩
  obtain ⟨a1, a2, a3⟩ := fplace_nm hk
  have hki : k = i := place_one h1 a1 (by rw [fvs_len]; exact hi) (by rw [a2, el_fvs hi]; exact he.symm)
  subst hki
  rw [hk, Int.toNat_natCast, el_fvs hi] at h4
  refine ⟨h3, h4, ?_⟩
  rw [atN_yes h, hk, Int.toNat_natCast, el_fvs hi]
  rfl
theorem at_some {hs : List Fl} {s : ByteArray} {a : Int} (h : AtOK (fvs hs) s a) (hn : ∀ q, q < hs.length → (el hs q).nm ≠ s) : False := by
  obtain ⟨h1, h2, h3, h4⟩ := id h
  obtain ⟨k, hk⟩ : ∃ k : Nat, fplace (fvs hs) s = (k : Int) := ⟨(fplace (fvs hs) s).toNat, by omega⟩
  obtain ⟨a1, a2, a3⟩ := fplace_nm hk
  rw [fvs_len] at a1
  rw [el_fvs a1] at a2
  exact hn k a1 a2
theorem at_next {fs : List FV} {s : ByteArray} {a : Int} (h : AtOK fs s a) : ¬AtOK fs s (a + 1) ∨ (atN fs s (a + 1) = atN fs s a ∧ atK fs s (a + 1) = atK fs s a + 1) ∨ (atK fs s (a + 1) = 0 ∧ atK fs s a = 63) := by
  by_cases h1 : AtOK fs s (a + 1)
  · right
    have h0 := h.2.2.1
    by_cases h2 : a % 64 = 63
    · right
      rw [atK_yes h1, atK_yes h]
      omega
    · left
      rw [atK_yes h1, atK_yes h, atN_yes h1, atN_yes h, show (a + 1) / 64 = a / 64 by omega]
      exact ⟨rfl, by omega⟩
  · exact .inl h1
end Go.Proofs.Ythgnlljpjpklpaa

/-
  Plain: the rest of the files, where one was made or dropped. No conditions; no program in sight.
-/
import Derived.Test.YthgnlljpjpklpaaFlaw3
namespace Go.Proofs.Ythgnlljpjpklpaa
open Go Go.RowKit
set_option linter.unusedVariables false
set_option linter.unusedSimpArgs false

section
variable {s : ByteArray} {hs gs : List Fl} {p i : Nat}
theorem DX.snocX {base b2 B B' B2 k : Nat} {X Y : List Nat} {w : World} (h : DX base B X w hs) (ho : DX b2 B2 Y w gs) (hk : k < gs.length) (h1 : base ≤ b2) (h2 : ∀ s ∈ X, B2 ≤ s) (h3 : B ≤ B') (h4 : B2 ≤ B') : DX base B' X w (hs ++ [⟨(el gs k).nm, (el gs k).A, (el gs k).n, (el gs k).c, (el gs k).ps⟩]) := by
  have hd := ho k hk
  refine (h.more h3).snoc (f := ⟨(el gs k).nm, (el gs k).A, (el gs k).n, (el gs k).c, (el gs k).ps⟩) (hd.1.more h4) (fun h0 => ⟨Nat.le_trans h1 (hd.2 h0).1, fun hm => ?_⟩)
  have a := h2 _ hm
  have b := (hd.1.at_ 0 h0).2.1
  dsimp only at a
  omega
theorem make_rest (h : MakeOK (fvs hs) s) (hp : p ≤ (fvs hs).length) (hv : makeV (fvs hs) s = (fvs hs).take p ++ (s, []) :: (fvs hs).drop p) (e : fvs gs = makeV (fvs hs) s) (hi : i < gs.length) :
    ((el gs i).nm = s ↔ i = p) ∧ (i = p → (el gs i).ps = []) ∧ (i ≠ p → cutAt p i < hs.length ∧ fv (el gs i) = el (fvs hs) (cutAt p i)) := by
  have hl : gs.length = hs.length + 1 := by rw [← fvs_len gs, e, make_len h, fvs_len]
  obtain ⟨a, b⟩ := make_names h hp hv i (by rw [fvs_len]; omega)
  rw [← e, el_fvs hi] at a b
  rw [fvs_len] at hp
  refine ⟨a, fun hip => ?_, fun hip => ?_⟩
  · rw [if_neg (by omega), if_pos hip] at b
    exact congrArg Prod.snd b
  · unfold cutAt
    by_cases h1 : i < p
    · rw [if_pos h1] at b
      rw [if_pos (by omega)]
      exact ⟨by omega, b⟩
    · rw [if_neg h1, if_neg hip] at b
      rw [if_neg (by omega)]
      exact ⟨by omega, b⟩
theorem rest_snoc {ys : List Fl} {V : List FV} {m : Nat} {f : Fl} (hm : m < V.length) (h : fvs ys = V.take m) (hf : fv f = el V m) : fvs (ys ++ [f]) = V.take (m + 1) := by
  rw [fvs_app, h, take_snoc _ _ hm, ← hf]
  rfl
theorem drop_rest (h : DropOK (fvs hs) s) (hp : fplace (fvs hs) s = (p : Int)) (hi : i < hs.length) : ((el hs i).nm = s ↔ i = p) ∧ (i = p → (el hs i).ps = dropP (fvs hs) s) ∧ (i ≠ p → cutAt p i < (dropV (fvs hs) s).length ∧ fv (el hs i) = el (dropV (fvs hs) s) (cutAt p i)) := by
  obtain ⟨q, hq, hl, hn, hv, hd⟩ := drop_at h
  obtain rfl : q = p := by omega
  have hlen : ((fvs hs).take q ++ (fvs hs).drop (q + 1)).length = (fvs hs).length - 1 := by simp; omega
  rw [fvs_len] at hl hlen
  refine ⟨⟨fun h9 => place_one h.1 (by rw [fvs_len]; exact hi) (by rw [fvs_len]; exact hl) (by rw [el_fvs hi, hn]; exact h9), fun h9 => ?_⟩, fun h9 => ?_, fun h9 => ?_⟩
  · subst h9; rw [el_fvs hi] at hn; exact hn
  · subst h9; rw [hd, el_fvs hi]; rfl
  · rw [hv, hlen, el_less (by rw [fvs_len]; exact hl), ← el_fvs hi]
    unfold cutAt
    by_cases h1 : i ≤ q
    · rw [if_pos h1, if_pos (by omega)]; exact ⟨by omega, rfl⟩
    · rw [if_neg h1, if_neg (by omega), show i - 1 + 1 = i by omega]; exact ⟨by omega, rfl⟩
theorem drop_len (h : DropOK (fvs hs) s) : (dropV (fvs hs) s).length + 1 = hs.length := by
  obtain ⟨q, hq, hl, hn, hv, hd⟩ := drop_at h
  have hlen : ((fvs hs).take q ++ (fvs hs).drop (q + 1)).length = (fvs hs).length - 1 := by simp; omega
  rw [fvs_len] at hl hlen
  rw [hv, hlen]; omega
theorem drop_apart (h : DropOK (fvs hs) s) (e : fvs gs = dropV (fvs hs) s) (hi : i < gs.length) {x : Int} (hx : x ∈ dropP (fvs hs) s) : x ∉ (el gs i).ps := fun h9 => by
  obtain ⟨q, hq, hl, hn, hv, hd⟩ := drop_at h
  have h1 := h.1.once
  rw [pcs_less hl, List.nodup_append, List.nodup_append] at h1
  have h2 : x ∈ pcs (dropV (fvs hs) s) := mem_pcs.2 ⟨i, by rw [← e, fvs_len]; exact hi, by rw [← e, el_fvs hi]; exact h9⟩
  rw [hv, pcs_app, List.mem_append] at h2
  rw [hd] at hx
  rcases h2 with h2 | h2
  · exact h1.2.2 x h2 x (List.mem_append.2 (.inl hx)) rfl
  · exact h1.2.1.2.2 x hx x h2 rfl
end
end Go.Proofs.Ythgnlljpjpklpaa

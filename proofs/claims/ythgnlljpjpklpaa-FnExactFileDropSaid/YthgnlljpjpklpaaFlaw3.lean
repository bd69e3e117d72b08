/-
  Plain: a file grown by a piece; files made and dropped, file by file. No conditions; no program in sight.
-/
import Derived.Test.YthgnlljpjpklpaaFlaw2
namespace Go.Proofs.Ythgnlljpjpklpaa
open Go Go.RowKit
set_option linter.unusedVariables false
set_option linter.unusedSimpArgs false

theorem bool_dec {b : Bool} {p : Prop} [Decidable p] (h : b = true ↔ p) : b = decide p := by
  cases b with
  | true => exact (decide_eq_true (h.1 rfl)).symm
  | false => exact (decide_eq_false fun h9 => by have := h.2 h9; cases this).symm
section
variable {fs : List FV} {s : ByteArray} {hs gs : List Fl}
theorem grow_fok (h : GrowOK fs s) : FOK (growV fs s) := by rw [growV_yes h]; exact h.2.2
theorem grow_len (h : GrowOK fs s) : (growV fs s).length = fs.length := by
  obtain ⟨p, _, _, _, hv⟩ := grow_at h
  rw [hv, List.length_set]
theorem grow_el (h : GrowOK fs s) {k : Nat} (hk : k < fs.length) : el (growV fs s) k = if (el fs k).1 = s then ((el fs k).1, (el fs k).2 ++ [growN fs s]) else el fs k := by
  obtain ⟨p, _, hl, hn, hv⟩ := grow_at h
  rw [hv, el_setF _ _ _ _ hl]
  by_cases e : k = p
  · subst e; rw [if_pos rfl, if_pos hn]
  · rw [if_neg e, if_neg (fun h9 => e (place_one h.1 hk hl (by rw [h9, hn])))]
theorem grow_in (h : GrowOK (fvs hs) s) (e : fvs gs = growV (fvs hs) s) {k : Nat} (hk : k < hs.length) (hn : (el hs k).nm = s) : (el gs k).ps = (el hs k).ps ++ [growN (fvs hs) s] := by
  have hl : gs.length = hs.length := by rw [← fvs_len gs, e, grow_len h, fvs_len]
  have h1 := grow_el h (k := k) (by rw [fvs_len]; exact hk)
  rw [el_fvs hk, ← e, el_fvs (by omega)] at h1
  have h2 : (fv (el hs k)).1 = s := hn
  rw [if_pos h2] at h1
  exact congrArg Prod.snd h1
theorem grow_out (h : GrowOK (fvs hs) s) (e : fvs gs = growV (fvs hs) s) {k : Nat} (hk : k < hs.length) (hn : (el hs k).nm ≠ s) : fv (el gs k) = fv (el hs k) := by
  have hl : gs.length = hs.length := by rw [← fvs_len gs, e, grow_len h, fvs_len]
  have h1 := grow_el h (k := k) (by rw [fvs_len]; exact hk)
  rw [el_fvs hk, ← e, el_fvs (by omega)] at h1
  have h2 : ¬(fv (el hs k)).1 = s := hn
  rw [if_neg h2] at h1
  exact h1
theorem grow_last {ps qs : List Int} {N : Int} {n : Nat} (e : qs = ps ++ [N]) (hn : ps.length = n) : qs.length = n + 1 ∧ el qs n = N ∧ qs.take n = ps := by
  subst hn; subst e
  refine ⟨by simp, ?_, List.take_left' rfl⟩
  rw [el_appF, if_neg (by omega), Nat.sub_self]; rfl
theorem grow_least (h : GrowOK fs s) : IsLeast (pcs fs) (growN fs s) := by
  obtain ⟨p, hp, hl, hn, hv⟩ := grow_at h
  have h1 := (grow_fok h).file p (by rw [grow_len h]; exact hl)
  rw [grow_el h hl, if_pos hn] at h1
  have h2 := h1.2.2 (el fs p).2.length (by simp)
  have e : el ((el fs p).2 ++ [growN fs s]) (el fs p).2.length = growN fs s := by rw [el_appF, if_neg (by omega), Nat.sub_self]; rfl
  simp only [e] at h2
  have e2 := growN_yes h
  by_cases hx : ∃ n, IsLeast (pcs fs) n
  · obtain ⟨n, hn⟩ := hx
    rw [e2, least_eq hn]; exact hn
  · rw [e2] at h2
    unfold least at h2
    rw [dif_neg hx] at h2
    omega
theorem least_iff (h : GrowOK fs s) {n : Int} (h1 : 1 ≤ n) (h2 : n ≤ growN fs s) : n ∈ pcs fs ↔ n < growN fs s := by
  obtain ⟨_, a, b⟩ := grow_least h
  constructor
  · intro h3
    rcases Int.lt_or_eq_of_le h2 with h4 | h4
    · exact h4
    · exact absurd (h4 ▸ h3) a
  · intro h3; exact b n h1 h3
theorem some_pcs {n : Int} {b : Bool} {j : Nat} (hj : hs.length ≤ j) (hb : b = true ↔ ∃ i, i < j ∧ i < hs.length ∧ n ∈ (el hs i).ps) : b = true ↔ n ∈ pcs (fvs hs) := by
  rw [hb, mem_pcs]
  constructor
  · rintro ⟨i, _, h1, h2⟩
    exact ⟨i, by rw [fvs_len]; exact h1, by rw [el_fvs h1]; exact h2⟩
  · rintro ⟨i, h1, h2⟩
    rw [fvs_len] at h1
    rw [el_fvs h1] at h2
    exact ⟨i, by omega, h1, h2⟩
theorem grow_byte (h : GrowOK fs s) {p : Nat} (hp : fplace fs s = (p : Int)) {m : Int} (hm : m = 64 * ((el fs p).2.length : Int)) : AtOK (growV fs s) s m ∧ atN (growV fs s) s m = growN fs s ∧ atK (growV fs s) s m = 0 ∧ ¬AtOK fs s m := by
  obtain ⟨a, b, c⟩ := fplace_nm hp
  have hel := grow_el h a
  rw [if_pos b] at hel
  have hpl : fplace (growV fs s) s = (p : Int) := fplace_at (by rw [grow_len h]; exact a) (by rw [hel]; exact b) (fun j hj => by rw [grow_el h (by omega), if_neg (c j hj)]; exact c j hj)
  have hps : (el (growV fs s) p).2 = (el fs p).2 ++ [growN fs s] := by rw [hel]
  have e64 : m / 64 = ((el fs p).2.length : Int) := by omega
  have hok : AtOK (growV fs s) s m := ⟨grow_fok h, by omega, by omega, by rw [hpl, Int.toNat_natCast, hps, e64]; simp; omega⟩
  refine ⟨hok, ?_, ?_, fun h9 => ?_⟩
  · rw [atN_yes hok, hpl, Int.toNat_natCast, hps, e64, Int.toNat_natCast, el_appF, if_neg (by omega), Nat.sub_self]; rfl
  · rw [atK_yes hok]; omega
  · have := h9.2.2.2
    rw [hp, Int.toNat_natCast, e64] at this
    omega
/-! file by file -/
theorem make_names (h : MakeOK fs s) {p : Nat} (hp : p ≤ fs.length) (hv : makeV fs s = fs.take p ++ (s, []) :: fs.drop p) (i : Nat) (hi : i < fs.length + 1) : ((el (makeV fs s) i).1 = s ↔ i = p) ∧ el (makeV fs s) i = if i < p then el fs i else if i = p then (s, []) else el fs (i - 1) := by
  have e := hv ▸ el_ins hp (s, ([] : List Int)) i
  refine ⟨?_, e⟩
  rw [e]
  have hn := fplace_none h.2.1
  by_cases h1 : i < p
  · rw [if_pos h1]; exact ⟨fun h9 => absurd h9 (hn i (by omega)), fun h9 => by omega⟩
  · rw [if_neg h1]
    by_cases h2 : i = p
    · rw [if_pos h2]; exact ⟨fun _ => h2, fun _ => rfl⟩
    · rw [if_neg h2]; exact ⟨fun h9 => absurd h9 (hn (i - 1) (by omega)), fun h9 => absurd h9 h2⟩
/-- how many of the first i are not the one at p -/
def cutAt (p i : Nat) : Nat := if i ≤ p then i else i - 1
theorem cut_on {p i : Nat} (h : i ≠ p) : cutAt p (i + 1) = cutAt p i + 1 := by unfold cutAt; split <;> split <;> omega
theorem cut_at (p : Nat) : cutAt p (p + 1) = cutAt p p := by unfold cutAt; rw [if_neg (by omega), if_pos (by omega)]; omega
end
end Go.Proofs.Ythgnlljpjpklpaa

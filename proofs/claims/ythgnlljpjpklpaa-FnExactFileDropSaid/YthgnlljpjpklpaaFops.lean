/-
  Files made, grown and dropped: what becomes of the rows of their pieces, and plain words on the lists. No conditions; no program in sight.
-/
import Derived.Test.YthgnlljpjpklpaaFlaw
namespace Go.Proofs.Ythgnlljpjpklpaa
open Go Go.RowKit
set_option linter.unusedVariables false
set_option linter.unusedSimpArgs false

section
variable {base base' B B' b2 B2 e n c : Nat} {X Y S : List Nat} {w w' : World} {hs gs : List Fl} {A : Option Addr} {ps : List Int}
theorem DOw.rex2 (h : DOw base B X e w hs) (hX : ∀ s ∈ Y, s < base ∨ s ∈ X ∨ B ≤ s) : DOw base B Y e w hs := ⟨h.own, fun k hk s h1 => by
  obtain ⟨a, b⟩ := h.off k hk s h1
  have c := (h.own k hk).off s h1
  refine ⟨fun hm => ?_, b⟩
  rcases hX s hm with h9 | h9 | h9
  · omega
  · exact a h9
  · omega, h.dj⟩
theorem DOw.snocNil (h : DOw base B X e w hs) (nm : ByteArray) : DOw base B X e w (hs ++ [⟨nm, none, 0, 0, []⟩]) :=
  h.app (DOw.one (f := ⟨nm, none, 0, 0, []⟩) (Own.nil _ _ _ _ _) (fun s hs => by simp [obl, Value.ownBlock] at hs)) (fun i j hi hj s h1 h2 => by
    obtain rfl : j = 0 := by simpa using hj
    have e : (el [(⟨nm, none, 0, 0, []⟩ : Fl)] 0) = ⟨nm, none, 0, 0, []⟩ := rfl
    rw [e] at h2
    simp [obl, Value.ownBlock] at h2)
/-- the row of file p has grown (in its place or in a new one) -/
theorem DOw.grow {p m : Nat} {A' : Option Addr} {ps' : List Int} {c' : Nat} (h : DOw base B X e w hs) (hp : p < hs.length) (nm : ByteArray) (hc : Ch (obl (.slice (el hs p).A (el hs p).n (el hs p).c)) w w') (ho : Own encI 1 w' base e (.slice A' m c') ps')
    (hv : ∀ s ∈ obl (.slice A' m c'), s ∈ obl (.slice (el hs p).A (el hs p).n (el hs p).c) ∨ w.heap.size ≤ s) (hB : B ≤ w.heap.size) (hX : ∀ s ∈ X, s < w.heap.size) : DOw base w'.heap.size X e w' (hs.set p ⟨nm, A', m, c', ps'⟩) := by
  have hz := hc.size
  refine ⟨fun i hi => ?_, fun i hi => ?_, fun i k hi hk hik => ?_⟩
  · rw [List.length_set] at hi; rw [el_setF _ _ _ _ hp]; split
    · exact ho
    · exact (h.own i hi).ch hc (fun s h1 h2 => h.dj i p hi hp (by assumption) s h1 h2)
  · rw [List.length_set] at hi; rw [el_setF _ _ _ _ hp]; split
    · intro s h1
      refine ⟨fun hm => ?_, ho.lt s h1⟩
      rcases hv s h1 with h2 | h2
      · exact (h.off p hp s h2).1 hm
      · have := hX s hm; omega
    · intro s h1; exact ⟨(h.off i hi s h1).1, Nat.lt_of_lt_of_le (h.off i hi s h1).2 (by omega)⟩
  · rw [List.length_set] at hi hk
    rw [el_setF _ _ _ _ hp, el_setF _ _ _ _ hp]
    have key : ∀ j, j < hs.length → j ≠ p → ∀ s ∈ obl (.slice A' m c'), s ∉ obl (.slice (el hs j).A (el hs j).n (el hs j).c) := fun j hj hjp s h1 h2 => by
      rcases hv s h1 with h3 | h3
      · exact h.dj j p hj hp hjp s h2 h3
      · have := (h.off j hj s h2).2; omega
    split <;> split
    · omega
    · exact key k hk (by assumption)
    · intro s h1 h2; exact key i hi (by assumption) s h2 h1
    · exact h.dj i k hi hk hik
/-- a file of another list, its row older than all of X -/
theorem DX.snocD {k : Nat} (h : DX base B X w hs) (ho : DOw b2 B2 Y e w gs) (hk : k < gs.length) (h1 : base ≤ b2) (h2 : ∀ s ∈ X, B2 ≤ s) (h3 : B ≤ B') (h4 : B2 ≤ B') : DX base B' X w (hs ++ [⟨(el gs k).nm, (el gs k).A, (el gs k).n, (el gs k).c, (el gs k).ps⟩]) := by
  have hd := (ho.dx k hk)
  refine (h.more h3).snoc (f := ⟨(el gs k).nm, (el gs k).A, (el gs k).n, (el gs k).c, (el gs k).ps⟩) (hd.1.more h4) (fun h0 => ⟨Nat.le_trans h1 (hd.2 h0).1, fun hm => ?_⟩)
  have a := h2 _ hm
  have b := (hd.1.at_ 0 h0).2.1
  dsimp only at a
  omega
theorem DX.snocNil (h : DX base B X w hs) (nm : ByteArray) : DX base B X w (hs ++ [⟨nm, none, 0, 0, []⟩]) := h.snoc (f := ⟨nm, none, 0, 0, []⟩) (RS.nil _ _ _ _ _) (fun h0 => by simp at h0)
theorem SzOK.nmOne {nm : ByteArray} (h : nm.size ≤ 1099511627776) : SzOK [⟨nm, none, 0, 0, []⟩] := SzOK.one h (Nat.zero_le _)
end

theorem obl_any {A : Option Addr} {n m c s : Nat} (h : s ∈ obl (.slice A n c)) : s ∈ obl (.slice A m c) := by
  rw [obl_sl A m n c]; exact h
/-! lists -/
theorem makeV_le (fs : List FV) (s : ByteArray) : (makeV fs s).length ≤ 8 := by
  by_cases h : MakeOK fs s
  · rw [makeV_yes h]; exact h.2.2.len
  · rw [makeV_no h]; exact Nat.zero_le _
theorem growV_le (fs : List FV) (s : ByteArray) : (growV fs s).length ≤ 8 := by
  by_cases h : GrowOK fs s
  · rw [growV_yes h]; exact h.2.2.len
  · rw [growV_no h]; exact Nat.zero_le _
theorem dropV_le (fs : List FV) (s : ByteArray) : (dropV fs s).length ≤ 8 := by
  by_cases h : DropOK fs s
  · rw [dropV_yes h]; have := h.1.len; unfold dropF; simp; omega
  · rw [dropV_no h]; exact Nat.zero_le _
theorem dropP_le (fs : List FV) (s : ByteArray) : (dropP fs s).length ≤ 4 := by
  by_cases h : DropOK fs s
  · rw [dropP_yes h]
    obtain ⟨k, hk⟩ : ∃ k : Nat, fplace fs s = (k : Int) := ⟨(fplace fs s).toNat, by have := h.2; omega⟩
    rw [hk, Int.toNat_natCast]
    exact (h.1.file k (fplace_nm hk).1).2.1
  · rw [dropP_no h]; exact Nat.zero_le _
theorem grow_at {fs : List FV} {s : ByteArray} (h : GrowOK fs s) : ∃ p : Nat, fplace fs s = (p : Int) ∧ p < fs.length ∧ (el fs p).1 = s ∧ growV fs s = fs.set p ((el fs p).1, (el fs p).2 ++ [growN fs s]) := by
  obtain ⟨k, hk⟩ : ∃ k : Nat, fplace fs s = (k : Int) := ⟨(fplace fs s).toNat, by have := h.2.1; omega⟩
  obtain ⟨a, b, _⟩ := fplace_nm hk
  refine ⟨k, hk, a, b, ?_⟩
  rw [growV_yes h, growN_yes h]
  unfold grownF
  rw [hk, Int.toNat_natCast]
theorem growN_bd (fs : List FV) (s : ByteArray) : 0 ≤ growN fs s ∧ growN fs s ≤ 99 := by
  by_cases h : GrowOK fs s
  · obtain ⟨p, hp, hl, hn, hv⟩ := grow_at h
    have h1 : FOK (growV fs s) := by rw [growV_yes h]; exact h.2.2
    have h2 := (h1.file p (by rw [hv, List.length_set]; exact hl)).2.2 (el fs p).2.length (by rw [hv, el_setF _ _ _ _ hl, if_pos rfl]; simp)
    rw [hv, el_setF _ _ _ _ hl, if_pos rfl] at h2
    have e : el ((el fs p).2 ++ [growN fs s]) (el fs p).2.length = growN fs s := by rw [el_appF, if_neg (by omega), Nat.sub_self]; rfl
    rw [e] at h2
    omega
  · rw [growN_no h]; omega
theorem sm_lt {a b : ByteArray} (h : ¬(slt a b = false ∧ a ≠ b)) (hn : a ≠ b) : slt a b = true := by
  cases e : slt a b with
  | true => rfl
  | false => exact absurd ⟨e, hn⟩ h
theorem fok_n {hs gs : List Fl} (h : FOK (fvs hs)) (e : fvs gs = fvs hs) {p : Nat} (hp : p < gs.length) : (el gs p).ps.length ≤ 4 := by
  rw [← e] at h
  have := (h.file p (by rw [fvs_len]; exact hp)).2.1
  rw [el_fvs hp] at this
  exact this
theorem pcs_bd {fs : List FV} (h : FOK fs) {x : Int} (hx : x ∈ pcs fs) : 1 ≤ x ∧ x ≤ 99 := by
  obtain ⟨i, hi, hx⟩ := mem_pcs.1 hx
  obtain ⟨k, hk, rfl⟩ := mem_el.1 hx
  exact (h.file i hi).2.2 k hk
section
variable {fs : List FV} {hs : List Fl} {s : ByteArray} {p i : Nat}
theorem dropF_eq (hp : fplace fs s = (p : Int)) : dropF fs s = fs.take p ++ fs.drop (p + 1) := by
  unfold dropF; rw [hp, Int.toNat_natCast]
theorem dropP_eq (h : DropOK fs s) (hp : fplace fs s = (p : Int)) : dropP fs s = (el fs p).2 := by
  rw [dropP_yes h, hp, Int.toNat_natCast]
theorem grownF_eq (hp : fplace fs s = (p : Int)) {k : Int} (hk : IsLeast (pcs fs) k) : grownF fs s = fs.set p ((el fs p).1, (el fs p).2 ++ [k]) := by
  unfold grownF; rw [hp, Int.toNat_natCast, least_eq hk]
theorem ins_at (hk : p ≤ fs.length) (h1 : ∀ j, j < p → slt (el fs j).1 s = true) (h2 : p < fs.length → slt (el fs p).1 s = false) : insF fs s = fs.take p ++ (s, []) :: fs.drop p := by
  unfold insF; rw [ipos_eq hk h1 h2]
def insTo (fs : List FV) (s : ByteArray) (i : Nat) : List FV := if ipos fs s < i then fs.take (ipos fs s) ++ (s, []) :: (fs.drop (ipos fs s)).take (i - ipos fs s) else fs.take i
theorem insTo_zero (fs : List FV) (s : ByteArray) : insTo fs s 0 = [] := by unfold insTo; rw [if_neg (by omega)]; rfl
theorem insTo_here (hi : i < fs.length) (h : ipos fs s = i) : insTo fs s (i + 1) = insTo fs s i ++ [(s, [])] ++ [el fs i] := by
  unfold insTo
  rw [if_pos (by omega), if_neg (by omega), h, show i + 1 - i = 1 by omega, take_snoc (fs.drop i) 0 (by simp; omega), el_drop]
  simp
theorem insTo_on (hi : i < fs.length) (h : ipos fs s ≠ i) : insTo fs s (i + 1) = insTo fs s i ++ [el fs i] := by
  unfold insTo
  by_cases h1 : ipos fs s < i
  · rw [if_pos (by omega), if_pos h1, show i + 1 - ipos fs s = (i - ipos fs s) + 1 by omega, take_snoc (fs.drop (ipos fs s)) _ (by simp; omega), el_drop, show ipos fs s + (i - ipos fs s) = i by omega]
    simp
  · rw [if_neg (by omega), if_neg h1, take_snoc fs i hi]
theorem insTo_all (h : ipos fs s < fs.length) : insTo fs s fs.length = insF fs s := by
  unfold insTo insF
  rw [if_pos h, List.take_of_length_le (l := fs.drop (ipos fs s)) (by simp)]
theorem insTo_end (h : ¬ipos fs s < fs.length) : insTo fs s fs.length ++ [(s, [])] = insF fs s := by
  have := ipos_le s fs
  unfold insTo insF
  rw [if_neg h, show ipos fs s = fs.length by omega, List.drop_length]
theorem ipos_here (h : ¬ipos fs s < i) (hi : i < fs.length) (hn : slt (el fs i).1 s = false) : ipos fs s = i := by
  apply Classical.byContradiction
  intro h1
  have := ipos_below s fs i (by omega)
  rw [hn] at this
  cases this
theorem ipos_past (hi : i < fs.length) (hn : slt (el fs i).1 s = true) : ipos fs s ≠ i := fun h => by
  have := ipos_at s fs (by omega)
  rw [h, hn] at this
  cases this
end
end Go.Proofs.Ythgnlljpjpklpaa

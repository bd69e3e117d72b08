/-
  Plain: what the laws on files say. No conditions; no program in sight.
-/
import Derived.Test.YthgnlljpjpklpaaDeep
namespace Go.Proofs.Ythgnlljpjpklpaa
open Go Go.RowKit
set_option linter.unusedVariables false
set_option linter.unusedSimpArgs false

section
variable {P : Program} {n : Nat} {D : List Deferred} {E : Env} {w : World} {ops : Array Oper} {o : Oper} {K : Env → World → Prop}
theorem op_make0 {α : Type} {enc : α → List Value} {z : Nat} {e : TypeId} {d t : Nat} {ag : Bool} {zv : Value} {by' : Nat} {x y : Operand} (m : Nat) (ht : P.underlying t = some (.slice e)) (hti : TI P e ag zv z by')
    (hw : Wanted n ops E o true) (hd : o.dst = some d) (hn : Nat.blt d n = true) (ho : o.op = .makeSlice t x y) (hx : ev E x = .int .i64 0) (hy : ev E y = .int .i64 m) (hb : by' * m ≤ 281474976710656) (hm : m ≤ maxLen)
    (h : ∀ g w', w.heap.size ≤ g → g < w'.heap.size → Own enc z w' w.heap.size e (.slice (some ⟨g, 0, none⟩) 0 m) ([] : List α) → Ch [] w w' → K (upd E d (.slice (some ⟨g, 0, none⟩) 0 m)) w') : OpW P n D ops o K E w := by
  obtain ⟨i, hi, hi0, hi1, hi2⟩ := hti.info
  obtain ⟨w', hrun, hown, hg⟩ := run_make_own (P := P) w w.heap.size t e i zv z ht hi hi0 hi1 .i64 .i64 m (by rw [hi2]; exact hb) hm (Nat.le_refl _)
  have hlt : w.heap.size < w'.heap.size := (World.ownsRow.lt hown w.heap.size rfl).2
  refine op_val hw hd hn (w' := w') ?_ (h _ _ (Nat.le_refl _) hlt ?_ (Ch.grown hg))
  · simp [execOp, ho, hx, hy, hrun]
  · unfold Own
    exact hown
end
theorem fvs_snoc {hs ys : List Fl} {k : Nat} (hk : k < hs.length) (h : fvs ys = (fvs hs).take k) {f : Fl} (hf : fv f = fv (el hs k)) : fvs (ys ++ [f]) = (fvs hs).take (k + 1) := by
  rw [fvs_app, h, take_snoc _ _ (by rw [fvs_len]; exact hk), el_fvs hk, ← hf]
  rfl
theorem at_in {hs : List Fl} {s : ByteArray} {a : Int} (h : AtOK (fvs hs) s a) {i : Nat} (hi : i < hs.length) (he : (el hs i).nm = s) :
    0 ≤ a ∧ a / 64 < (el hs i).ps.length ∧ atN (fvs hs) s a = el (el hs i).ps (a / 64).toNat := by
  obtain ⟨h1, h2, h3, h4⟩ := id h
  obtain ⟨k, hk⟩ : ∃ k : Nat, fplace (fvs hs) s = (k : Int) := ⟨(fplace (fvs hs) s).toNat, by omega⟩
  obtain ⟨a1, a2, a3⟩ := fplace_nm hk
  have hki : k = i := place_one h1 a1 (by rw [fvs_len]; exact hi) (by rw [a2, el_fvs hi]; exact he.symm)
  subst hki
  rw [hk, Int.toNat_natCast, el_fvs hi] at h4
  refine ⟨h3, h4, ?_⟩
  rw [atN_yes h, hk, Int.toNat_natCast, el_fvs hi]
  rfl
theorem at_some {hs : List Fl} {s : ByteArray} {a : Int} (h : AtOK (fvs hs) s a) (hn : ∀ q, q < hs.length → (el hs q).nm ≠ s) : False := by
  obtain ⟨h1, h2, h3, h4⟩ := id h
  obtain ⟨k, hk⟩ : ∃ k : Nat, fplace (fvs hs) s = (k : Int) := ⟨(fplace (fvs hs) s).toNat, by omega⟩
  obtain ⟨a1, a2, a3⟩ := fplace_nm hk
  rw [fvs_len] at a1
  rw [el_fvs a1] at a2
  exact hn k a1 a2
theorem at_next {fs : List FV} {s : ByteArray} {a : Int} (h : AtOK fs s a) : ¬AtOK fs s (a + 1) ∨ (atN fs s (a + 1) = atN fs s a ∧ atK fs s (a + 1) = atK fs s a + 1) ∨ (atK fs s (a + 1) = 0 ∧ atK fs s a = 63) := by
  by_cases h1 : AtOK fs s (a + 1)
  · right
    have h0 := h.2.2.1
    by_cases h2 : a % 64 = 63
    · right
      rw [atK_yes h1, atK_yes h]
      omega
    · left
      rw [atK_yes h1, atK_yes h, atN_yes h1, atN_yes h, show (a + 1) / 64 = a / 64 by omega]
      exact ⟨rfl, by omega⟩
  · exact .inl h1
theorem el_less {α : Type} [Inhabited α] {fs : List α} {d : Nat} (hd : d < fs.length) (j : Nat) : el (fs.take d ++ fs.drop (d + 1)) j = if j < d then el fs j else el fs (j + 1) := by
  have ht : (fs.take d).length = d := by simp; omega
  rw [el_appF, ht]
  by_cases hj : j < d
  · rw [if_pos hj, if_pos hj, el_take _ _ _ hj]
  · rw [if_neg hj, if_neg hj, el_drop, show d + 1 + (j - d) = j + 1 by omega]
theorem pcs_less {fs : List FV} {d : Nat} (hd : d < fs.length) : pcs fs = pcs (fs.take d) ++ ((el fs d).2 ++ pcs (fs.drop (d + 1))) := by
  have e : fs = fs.take d ++ el fs d :: fs.drop (d + 1) := by rw [el_eq hd, ← List.drop_eq_getElem_cons hd, List.take_append_drop]
  conv => lhs; rw [e]
  rw [pcs_app]
  rfl
theorem fok_less {fs : List FV} (h : FOK fs) {d e : Nat} (he : e = d + 1) (hd : d < fs.length) : FOK (fs.take d ++ fs.drop e) := by
  subst he
  have hl : (fs.take d ++ fs.drop (d + 1)).length = fs.length - 1 := by simp; omega
  have h8 := h.len
  refine ⟨by omega, fun i hi => ?_, fun i j hij hi => ?_, ?_⟩
  · rw [el_less hd]
    split
    · exact h.file i (by omega)
    · exact h.file (i + 1) (by omega)
  · rw [el_less hd, el_less hd]
    split <;> split <;> exact asc_lt h.asc (by omega) (by omega)
  · have h1 := h.once
    rw [pcs_less hd] at h1
    rw [pcs_app]
    exact h1.sublist ((List.Sublist.refl _).append (List.sublist_append_right _ _))
theorem fok_twice {fs : List FV} {d e : Nat} (he : e = d + 1) (hd : d < fs.length) : ¬FOK (fs.take e ++ fs.drop d) := by
  subst he
  intro h
  have ht : (fs.take (d + 1)).length = d + 1 := by simp; omega
  have hl : (fs.take (d + 1) ++ fs.drop d).length = fs.length + 1 := by simp; omega
  have h1 := h.asc (d + 1) d rfl (by omega)
  rw [el_appF, el_appF, ht, if_pos (by omega), if_neg (by omega), el_take _ _ _ (by omega), el_drop] at h1
  simp only [Nat.sub_self, Nat.add_zero, slt_irr] at h1
  cases h1
end Go.Proofs.Ythgnlljpjpklpaa

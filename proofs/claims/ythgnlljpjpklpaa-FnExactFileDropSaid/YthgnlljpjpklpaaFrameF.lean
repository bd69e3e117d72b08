/-
  From the reading of an argument that is a slice of files to the words of the walks. No conditions.
-/
import Derived.Test.YthgnlljpjpklpaaFrameR
import Derived.Test.YthgnlljpjpklpaaDeep
namespace Go.Proofs.Ythgnlljpjpklpaa
open Go Go.RowKit Go.ChangeShapes Go.WideShapes
set_option linter.unusedVariables false

section
variable {H : Type} {enc : TypeId × Value → H} {P : Program} {W : World} {base : Nat} {spare : Nat → Bool} {held : Bool}
theorem open_files {t e g : TypeId} {f0 f1 : Field} {fuel : Nat} {A : Option Addr} {n c : Nat} {x : DataW H × List MemPlace}
    (ht : P.underlying t = some (.slice e)) (he : P.underlying e = some (.struct #[f0, f1])) (ce : P.cellsOf e = 2) (o0 : f0.offset = 0) (o1 : f1.offset = 1) (c0 : P.cellsOf f0.type = 1) (c1 : P.cellsOf f1.type = 1)
    (u0 : P.underlying f0.type = some .string) (u1 : P.underlying f1.type = some (.slice g)) (ug : P.underlying g = some (.int .i64)) (cg : P.cellsOf g = 1)
    (h : DataW.trod enc P W base spare held fuel t [.slice A n c] = some x) :
    ∃ xs : List Fl, RS encF 2 W W.heap.size A n xs ∧ n ≤ c ∧ c ≤ maxLen ∧ DX 0 W.heap.size [] W xs ∧ ∀ k, k < xs.length → (el xs k).nm.size ≤ maxLen ∧ (el xs k).n ≤ maxLen := by
  rcases Go.Deep.open_slice_pairs ht he ce o0 o1 c0 c1 h with ⟨h0, _⟩ | ⟨a, len, cap, m, k, V0, V1, D0, D1, P0, P1, h0, hb, hl, hm, hmm, _, hx⟩
  · simp only [List.cons.injEq, Value.slice.injEq, and_true] at h0
    obtain ⟨rfl, rfl, rfl⟩ := h0
    exact ⟨[], RS.nil _ _ _ _ _, Nat.le_refl _, by decide, DX.nil, fun k hk => by simp at hk⟩
  · simp only [List.cons.injEq, Value.slice.injEq, and_true] at h0
    obtain ⟨rfl, rfl, rfl⟩ := h0
    have hlm : n ≤ m := by rw [hmm]; split <;> omega
    have key : ∀ i, i < n → ∃ f : Fl, V0 i = .string f.nm ∧ V1 i = .slice f.A f.n f.c ∧ RS encI 1 W W.heap.size f.A f.n f.ps ∧ f.nm.size ≤ maxLen ∧ f.n ≤ maxLen := fun i hi => by
      obtain ⟨_, _, t0, t1⟩ := hx i (by omega)
      obtain ⟨s, e0, _, hs⟩ := DataW.trod_string u0 t0
      simp only [List.cons.injEq, and_true] at e0
      rcases open_ints u1 ug cg t1 with ⟨hcs, _⟩ | ⟨y, l, q, zs, hcs, _, hl2, hm2, hz, _, hcell, hwz⟩
      · simp only [List.cons.injEq, and_true] at hcs
        exact ⟨⟨s, none, 0, 0, []⟩, e0, hcs, RS.nil _ _ _ _ _, hs, Nat.zero_le _⟩
      · simp only [List.cons.injEq, and_true] at hcs
        exact ⟨⟨s, some y, l, q, _⟩, e0, hcs, rs_i64 (len := l) (cap := zs.length) (by rw [hz]; split <;> omega) rfl hcell, hs, by show l ≤ maxLen; omega⟩
    have hel : ∀ i, i < n → el ((List.range n).map fun i => if hi : i < n then Classical.choose (key i hi) else default) i = if hi : i < n then Classical.choose (key i hi) else default := fun i hi => by
      simp [el, List.getD, hi]
    have hlen : ((List.range n).map fun i => if hi : i < n then Classical.choose (key i hi) else default).length = n := by simp
    refine ⟨_, ⟨hlen, fun i hi => ⟨rfl, ?_, fun j v hv => ?_⟩⟩, hl, hm, fun i hi => ?_, fun i hi => ?_⟩
    · have := World.block_lt_of_cell? W _ (hx i (by omega)).1
      simpa [add_block, adr] using this
    · rw [hel i hi, dif_pos hi] at hv
      obtain ⟨s0, s1, _⟩ := Classical.choose_spec (key i hi)
      obtain ⟨q0, q1, _⟩ := hx i (by omega)
      have hj : j < 2 := (List.getElem?_eq_some_iff.1 hv).1
      simp only [adr, Option.getD_some]
      match j, hj with
      | 0, _ => simp only [encF, List.getElem?_cons_zero, Option.some.injEq] at hv; rw [← hv, ← s0]; exact q0
      | 1, _ => simp only [encF, List.getElem?_cons_succ, List.getElem?_cons_zero, Option.some.injEq] at hv; rw [← hv, ← s1]; exact q1
    · rw [hlen] at hi
      rw [hel i hi, dif_pos hi]
      exact ⟨(Classical.choose_spec (key i hi)).2.2.1, fun _ => ⟨Nat.zero_le _, by simp⟩⟩
    · rw [hlen] at hi
      rw [hel i hi, dif_pos hi]
      exact (Classical.choose_spec (key i hi)).2.2.2
end
end Go.Proofs.Ythgnlljpjpklpaa

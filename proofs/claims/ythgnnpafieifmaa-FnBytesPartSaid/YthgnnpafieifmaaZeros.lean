/-
  append(s, make([]T, k)...) upon a row of the call's own. No conditions; proved from the library's own laws.
-/
import Derived.Test.YthgnnpafieifmaaKinds
import Derived.Lib.AppendZerosOnto
namespace Go.Proofs.Ythgnnpafieifmaa
open Go Go.RowKit
set_option linter.unusedVariables false

section
variable {P : Program} {n : Nat} {D : List Deferred} {E : Env} {w : World} {ops : Array Oper} {o : Oper} {K : Env → World → Prop}
variable {α : Type} [Inhabited α] {enc : α → List Value} {z : Nat} {base : Nat} {e : TypeId} {v : Value} {xs : List α}

theorem op_appendZ {d t tn : Nat} {ag : Bool} {zv : Value} {by' k : Nat} {kn kq : IntKind} {s x : Operand} (x0 : α) (ht : P.underlying t = some (.slice e)) (htn : P.underlying tn = some (.int kn)) (hti : TI P e ag zv z by') (hz : ∀ x, (enc x).length = z)
    (h0 : zv.cells.toList = enc x0) (hz0 : 0 < z) (h1 : ∀ u ∈ enc x0, u.oneCell' = true)
    (hw : Wanted n ops E o true) (hd : o.dst = some d) (hn : Nat.blt d n = true) (ho : o.op = .call { callee := .builtin .append, args := #[s, x], argTypes := #[t, tn] })
    (hs : ev E s = v) (hx : ev E x = .int kq k) (hown : Own enc z w base e v xs) (hk : 0 < k) (hm : xs.length + k ≤ maxLen) (hb : (xs.length + k) * by' ≤ 140737488355328) (hbase : base ≤ w.heap.size)
    (h : ∀ v' w', Own enc z w' base e v' (xs ++ List.replicate k x0) → Ch (obl v) w w' → (∀ s ∈ obl v', s ∈ obl v ∨ w.heap.size ≤ s) → K (upd E d v') w') : OpW P n D ops o K E w := by
  obtain ⟨i, hi, hi0, hi1, hi2⟩ := hti.info
  subst hi1
  subst hi2
  have hmm : xs.length + k ≤ 9223372036854775807 := by simp only [maxLen] at hm; omega
  have hzs : zv.cells.size = i.size := by rw [← Array.length_toList, h0, hz]
  have hzc : ∀ m, (Builtin.zeroCells zv.cells m).toList = (List.replicate m x0).flatMap enc := fun m => by
    have := made_eq hz zv x0 h0 hz0 m
    rw [← this, ← hzs]
    rfl
  have hl1 : (xs.flatMap enc).length = xs.length * i.size := flat_len hz xs
  have hl2 : ((List.replicate k x0).flatMap enc).length = k * i.size := by rw [flat_len hz, List.length_replicate]
  have hkb : k * i.bytes ≤ 281474976710656 := by
    have : k * i.bytes ≤ (xs.length + k) * i.bytes := Nat.mul_le_mul_right _ (by omega)
    omega
  have grown : ∀ (A : Option Addr) (cap : Nat), v = .slice A xs.length cap → cap < xs.length + k → (Builtin.firstCells i.size xs.length (.slice A xs.length cap)).run P w.drew = .ok (xs.flatMap enc).toArray w.drew →
      ∃ v' w', (Builtin.append_ #[t, tn] o.type #[v, .int kq k]).run P w = .ok v' w' ∧ Own enc i.size w' base e v' (xs ++ List.replicate k x0) ∧ Ch (obl v) w w' ∧ (∀ s ∈ obl v', s ∈ obl v ∨ w.heap.size ≤ s) := by
    intro A cap hv hcap hold
    have hr := Lib.run_append_grow_zeros (P := P) w t tn o.type e i zv kq kn ht htn hi hi0 A xs.length cap (xs.flatMap enc) hold k hk hz0 hcap (by omega) hkb (growslice_fits hcap hb)
    have hge := grownCap_ge w (xs.length + k) cap e
    have hcm : grownCap w (xs.length + k) cap e ≤ maxLen := grownCap_le_maxLen w (xs.length + k) cap e hm
    rw [← hv] at hr
    refine ⟨_, _, hr, ⟨by rw [flat_len hz], .inr ⟨w.heap.size, _, _, ?_, hbase, heap_alloc_new w.drew _, ?_, hcm, ?_, ?_⟩⟩, ⟨rfl, rfl, rfl, by simp, fun j hj _ => (Ch.alloc w.drew _).block j hj (by simp)⟩, fun s hs => .inr ?_⟩
    · simp
    · simpa using hge
    · simp only [Array.size_append, List.size_toArray, size_zeroCells, hzs, hl1, ← Nat.add_mul]
      congr 1
      omega
    · simp only [Array.toList_append, List.append_assoc, hzc]
      rw [← List.append_assoc, ← List.flatMap_append]
      have hll : ((xs ++ List.replicate k x0).flatMap enc).length = (xs ++ List.replicate k x0).length * i.size := flat_len hz _
      rw [← hll]
      exact List.take_left
    · simp [obl, Value.ownBlock] at hs
      omega
  have key : ∃ v' w', (Builtin.append_ #[t, tn] o.type #[v, .int kq k]).run P w = .ok v' w' ∧ Own enc i.size w' base e v' (xs ++ List.replicate k x0) ∧ Ch (obl v) w w' ∧ (∀ s ∈ obl v', s ∈ obl v ∨ w.heap.size ≤ s) := by
    rcases hown.2 with ⟨rfl, hx0⟩ | ⟨g, cap, cur, rfl, hbg, hg, hnc, hcm, hcs, htake⟩
    · have hxs : xs = [] := List.eq_nil_of_length_eq_zero hx0
      subst hxs
      exact grown none 0 rfl (by simpa using hk) (by simp [run_firstCells_none])
    · by_cases hroom : xs.length + k ≤ cap
      · have hfit : xs.length * i.size + ((List.replicate k x0).flatMap enc).length ≤ cur.size := by rw [hl2, hcs, ← Nat.add_mul]; exact Nat.mul_le_mul_right _ hroom
        have hst := run_storeCells_at P g (xs.length * i.size) e ((List.replicate k x0).flatMap enc) 0 cur w hg (by omega) (fun u hu => by
          obtain ⟨y, hy, hu⟩ := List.mem_flatMap.1 hu
          rw [List.eq_of_mem_replicate hy] at hu
          exact h1 u hu)
        have hwk : IntKind.i64.wrap (k : Int) = k := by rw [IntKind.wrap_i64]; omega
        have hneg : ¬ ((k : Int) < 0) := by omega
        have hns : ¬ (k * i.size = 0) := Nat.mul_ne_zero (by omega) (by omega)
        have h48i : ¬ (281474976710656 < (k : Int) * (i.bytes : Int)) := by
          rw [← Int.natCast_mul]
          omega
        simp only [Nat.add_zero] at hst
        refine ⟨.slice (some ⟨g, 0, none⟩) (xs.length + k) cap, w.setRow g (cur.toList.take (xs.length * i.size) ++ (List.replicate k x0).flatMap enc ++ cur.toList.drop (xs.length * i.size + ((List.replicate k x0).flatMap enc).length)).toArray, ?_,
          ⟨by rw [flat_len hz], .inr ⟨g, cap, _, by simp, hbg, setRow_heap w g cur _ e _ hg, by simpa using hroom, hcm, ?_, ?_⟩⟩, ⟨rfl, rfl, rfl, by simp, fun j _ hj => setRow_other w g j _ (by simpa [obl, Value.ownBlock] using hj)⟩, fun s hs => .inl hs⟩
        · simp [Builtin.append_, run_underlying ht, run_underlying htn, sizeOf, typeInfo, zeroValue, hi, hi0, asInt, asIntOf, hwk, hneg, hns, h48i, hroom, hzc, Addr.add_lit, hst]
        · simp only [List.size_toArray, List.length_append, List.length_take, List.length_drop, Array.length_toList]
          omega
        · rw [htake, List.flatMap_append.symm]
          have hll : ((xs ++ List.replicate k x0).flatMap enc).length = (xs ++ List.replicate k x0).length * i.size := flat_len hz _
          rw [← hll]
          exact List.take_left
      · refine grown (some ⟨g, 0, none⟩) cap rfl (by omega) ?_
        exact run_firstCells_some (P := P) w.drew i.size xs.length ⟨g, 0, none⟩ xs.length cap (xs.flatMap enc) hl1 (by simpa using hown.cells (g := g) rfl)
  obtain ⟨v', w', hrun, h2, h3, h4⟩ := key
  refine op_val hw hd hn (w' := w') ?_ (h v' w' h2 h3 h4)
  simp [execOp, ho, resolve, invoke, builtin, hs, hx, hrun]
end
end Go.Proofs.Ythgnnpafieifmaa

/-
  Plain: what comes out of the heap of scored servers, one after the other. No conditions; no program in sight.
-/
import Derived.Test.YtielahdnccocdaaRank
namespace Go.Proofs.Ytielahdnccocdaa
open Go Go.RowKit
set_option linter.unusedVariables false

def scored (p : Int) (l : List Int) : List Bt := l.map fun s => ⟨s, mixP p s⟩
theorem scored_snoc {p : Int} {l : List Int} {k : Nat} (hk : k < l.length) : scored p (l.take (k + 1)) = scored p (l.take k) ++ [(⟨el l k, mixP p (el l k)⟩ : Bt)] := by
  unfold scored
  rw [take_snoc l k hk, List.map_append]
  rfl
theorem scored_mem {p : Int} {l : List Int} {y : Bt} : y ∈ scored p l ↔ y.s ∈ l ∧ y.a = mixP p y.s := by
  unfold scored
  rw [List.mem_map]
  constructor
  · rintro ⟨s, h, rfl⟩; exact ⟨h, rfl⟩
  · rintro ⟨h, e⟩; exact ⟨y.s, h, bt_ext rfl e.symm⟩
theorem scored_nodup {p : Int} {l : List Int} (h : l.Nodup) : (scored p l).Nodup := by
  unfold scored
  rw [List.nodup_iff_pairwise_ne] at *
  rw [List.pairwise_map]
  exact h.imp fun hab e => hab (congrArg Bt.s e)
/-- the heap holds those that are not yet taken -/
def Left (p : Int) (l : List Int) (k : Nat) (ys : List Bt) : Prop := ys.length + k = l.length ∧ HeapN ys.length ys ∧ ys.Nodup ∧ ∀ y : Bt, y ∈ ys ↔ (y.s ∈ l ∧ y.s ∉ (rankP p l).take k ∧ y.a = mixP p y.s)
theorem left_start {p : Int} {l : List Int} {ys : List Bt} (hn : l.Nodup) (hp : ys.Perm (scored p l)) (hh : HeapN ys.length ys) : Left p l 0 ys := by
  refine ⟨by rw [hp.length_eq]; simp [scored], hh, hp.nodup_iff.2 (scored_nodup hn), fun y => ?_⟩
  rw [hp.mem_iff, scored_mem]
  simp
theorem left_top {p : Int} {l : List Int} {k : Nat} {ys : List Bt} (hn : l.Nodup) (h : Left p l k ys) (hk : k < l.length) : (el ys 0).s = el (rankP p l) k := by
  obtain ⟨h1, h2, h3, h4⟩ := h
  refine next_unique (p := p) (l := l) (t := (rankP p l).take k) ?_ (rank_next hn hk)
  have hx := (h4 (el ys 0)).1 (el_mem (by omega))
  refine ⟨hx.1, hx.2.1, fun y hy hyt => ?_⟩
  obtain ⟨i, hi, he⟩ := mem_el.1 ((h4 ⟨y, mixP p y⟩).2 ⟨hy, hyt, rfl⟩)
  have := heap_top h2 i hi
  rw [he] at this
  unfold Ahead at this
  unfold Bet
  have e := hx.2.2
  simp only at this
  omega
theorem left_step {p : Int} {l : List Int} {k n : Nat} {ys zs : List Bt} (hn : l.Nodup) (h : Left p l k ys) (hk : k < l.length) (hzl : zs.length = ys.length - 1) (hp : (el ys 0 :: zs).Perm ys) (hh : HeapN (ys.length - 1) zs) : Left p l (k + 1) zs := by
  have ht := left_top hn h hk
  obtain ⟨h1, h2, h3, h4⟩ := h
  have hnd := hp.nodup_iff.2 h3
  rw [List.nodup_cons] at hnd
  have hts : (rankP p l).take (k + 1) = (rankP p l).take k ++ [el (rankP p l) k] := take_snoc _ _ (by rw [rankP_len]; exact hk)
  have hx := (h4 (el ys 0)).1 (el_mem (by omega))
  refine ⟨by omega, by rw [hzl]; exact hh, hnd.2, fun y => ?_⟩
  have hy := hp.mem_iff (a := y)
  rw [List.mem_cons, h4] at hy
  rw [hts, List.mem_append, List.mem_singleton, ← ht]
  constructor
  · intro hz
    have := hy.1 (.inr hz)
    refine ⟨this.1, fun h9 => ?_, this.2.2⟩
    rcases h9 with h9 | h9
    · exact this.2.1 h9
    · have : y = el ys 0 := bt_ext h9 (by rw [this.2.2, hx.2.2, h9])
      exact hnd.1 (this ▸ hz)
  · rintro ⟨ha, hb, hc⟩
    rcases hy.2 ⟨ha, fun h9 => hb (.inl h9), hc⟩ with h9 | h9
    · exact absurd (.inr (congrArg Bt.s h9)) hb
    · exact h9
section
variable {p : Int} {l : List Int} {m k : Int}
theorem place_len (h : PlaceOK p l m) : (placeV p l m).length = m.toNat := by
  have := h.2.2
  rw [placeV_yes h, List.length_take, rankP_len]; omega
theorem place_more (h : PlaceOK p l m) (h1 : 1 ≤ k) (h2 : k ≤ m) : PlaceOK p l k ∧ (placeV p l m).take k.toNat = placeV p l k := by
  have hk : PlaceOK p l k := ⟨h.1, h.2.1, h1, by have := h.2.2; omega⟩
  refine ⟨hk, ?_⟩
  rw [placeV_yes h, placeV_yes hk, List.take_take, show min k.toNat m.toNat = k.toNat by omega]
theorem place_el (h : PlaceOK p l m) {i : Nat} (hi : i < m.toNat) : el (placeV p l m) i = el (rankP p l) i ∧ (placeV p l m).take i = (rankP p l).take i := by
  rw [placeV_yes h, el_take _ _ _ hi, List.take_take, show min i m.toNat = i by omega]
  exact ⟨rfl, rfl⟩
theorem place_at (h : PlaceOK p l m) {i : Nat} (hi : i < m.toNat) : IsNext p l ((placeV p l m).take i) (el (placeV p l m) i) := by
  obtain ⟨e1, e2⟩ := place_el h hi
  rw [e1, e2]
  exact rank_next (ids_nodup h.2.1.2) (by have := h.2.2; omega)
end
end Go.Proofs.Ytielahdnccocdaa

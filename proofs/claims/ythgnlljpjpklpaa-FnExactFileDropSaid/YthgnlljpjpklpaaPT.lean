/-
  A tree of numbers in memory. No conditions; no program in sight.
-/
import Derived.Test.YthgnlljpjpklpaaStr
namespace Go.Proofs.Ythgnlljpjpklpaa
open Go Go.RowKit
set_option linter.unusedVariables false

inductive PT where
  | leaf : PT
  | node (g : Nat) (v : Int) (l r : PT) : PT
def PT.blks : PT → List Nat
  | .leaf => []
  | .node g _ l r => g :: (l.blks ++ r.blks)
def PT.nums : PT → List Int
  | .leaf => []
  | .node _ v l r => v :: (l.nums ++ r.nums)
def PT.Ord : PT → Prop
  | .leaf => True
  | .node _ v l r => (∀ y ∈ l.nums, y < v) ∧ (∀ y ∈ r.nums, v < y) ∧ l.Ord ∧ r.Ord
def PT.Is (T : TypeId) (w : World) : PT → Option Addr → Prop
  | .leaf, p => p = none
  | .node g v l r, p => p = some ⟨g, 0, none⟩ ∧ ∃ pl pr, Blk w g T [.int .i64 v, .pointer pl, .pointer pr] ∧ l.Is T w pl ∧ r.Is T w pr
def PT.size : PT → Nat
  | .leaf => 0
  | .node _ _ l r => l.size + r.size + 1
theorem PT.Is.lt {T : TypeId} {w : World} : ∀ {t : PT} {p : Option Addr}, t.Is T w p → ∀ s ∈ t.blks, s < w.heap.size := by
  intro t
  induction t with
  | leaf => intro p _ s hs; cases hs
  | node g v l r ihl ihr =>
    rintro p ⟨_, pl, pr, hb, hl, hr⟩ s hs
    simp only [PT.blks, List.mem_cons, List.mem_append] at hs
    rcases hs with rfl | hs | hs
    · exact hb.lt
    · exact ihl hl s hs
    · exact ihr hr s hs
theorem PT.Is.ch {T : TypeId} {w w' : World} {S : List Nat} (hc : Ch S w w') : ∀ {t : PT} {p : Option Addr}, t.Is T w p → (∀ s ∈ t.blks, s ∉ S) → t.Is T w' p := by
  intro t
  induction t with
  | leaf => intro p h _; exact h
  | node g v l r ihl ihr =>
    rintro p ⟨h0, pl, pr, hb, hl, hr⟩ hs
    exact ⟨h0, pl, pr, hb.ch hc (hs g (by simp [PT.blks])), ihl hl (fun s h => hs s (by simp [PT.blks, h])), ihr hr (fun s h => hs s (by simp [PT.blks, h]))⟩
/-- a tree of the call's own: its blocks are from 'base' on, and no two of its nodes lie in one -/
structure PT.OK (T : TypeId) (base : Nat) (w : World) (t : PT) (p : Option Addr) : Prop where
  is : t.Is T w p
  nd : t.blks.Nodup
  off : Off base t.blks
  ord : t.Ord
theorem PT.OK.ch {T : TypeId} {base : Nat} {w w' : World} {S : List Nat} {t : PT} {p : Option Addr} (h : t.OK T base w p) (hc : Ch S w w') (hs : ∀ s ∈ t.blks, s ∉ S) : t.OK T base w' p := ⟨h.is.ch hc hs, h.nd, h.off, h.ord⟩
theorem PT.OK.ch0 {T : TypeId} {base : Nat} {w w' : World} {t : PT} {p : Option Addr} (h : t.OK T base w p) (hc : Ch [] w w') : t.OK T base w' p := h.ch hc (fun _ _ h => by cases h)
theorem PT.OK.leaf (T : TypeId) (base : Nat) (w : World) : PT.leaf.OK T base w none := ⟨rfl, List.nodup_nil, fun s h => (by cases h), trivial⟩
/-- what 'with' brings -/
def WithQ (T : TypeId) (base : Nat) (t : PT) (x : Int) (w : World) (v : Value) (w' : World) : Prop :=
  ∃ p' b t', v = .tuple #[.pointer p', .bool b] ∧ PT.OK T base w' t' p' ∧ (∀ s ∈ t'.blks, s ∈ t.blks ∨ w.heap.size ≤ s) ∧ (∀ y, y ∈ t'.nums ↔ y = x ∨ y ∈ t.nums) ∧ (b = true ↔ x ∉ t.nums) ∧ Ch t.blks w w'
theorem with_leafQ {T : TypeId} {base : Nat} {x : Int} {w w' : World} {g : Nat} (hb : Blk w' g T [.int .i64 x, .pointer none, .pointer none]) (hg : w.heap.size ≤ g) (hbase : base ≤ w.heap.size) (hc : Ch [] w w') :
    WithQ T base .leaf x w (.tuple #[.pointer (some ⟨g, 0, none⟩), .bool true]) w' :=
  ⟨_, _, .node g x .leaf .leaf, rfl, ⟨⟨rfl, none, none, hb, rfl, rfl⟩, by simp [PT.blks], fun s hs => by simp [PT.blks] at hs; omega, by simp [PT.Ord, PT.nums]⟩, fun s hs => by simp [PT.blks] at hs; exact .inr (by omega),
    fun y => by simp [PT.nums], by simp [PT.nums], hc⟩
section
variable {T : TypeId} {base : Nat} {x v : Int} {w w1 w' : World} {g : Nat} {l r : PT} {pl pr p' p2 : Option Addr} {b : Bool}
theorem with_l (h : (PT.node g v l r).OK T base w (some ⟨g, 0, none⟩)) (hr : r.Is T w pr) (hx : x < v) (hq : WithQ T base l x w (.tuple #[.pointer p', .bool b]) w1) (hb : Blk w' g T [.int .i64 v, .pointer p', .pointer pr]) (hc : Ch [g] w1 w') :
    WithQ T base (.node g v l r) x w (.tuple #[.pointer (some ⟨g, 0, none⟩), .bool b]) w' := by
  obtain ⟨p0, b0, t', he, ht, hs, hn, hbb, hch⟩ := hq
  simp only [Value.tuple.injEq, Array.mk.injEq, List.cons.injEq, Value.pointer.injEq, Value.bool.injEq, and_true] at he
  obtain ⟨rfl, rfl⟩ := he
  have hnd := h.nd
  simp only [PT.blks, List.nodup_cons, List.nodup_append, List.mem_append, not_or] at hnd
  obtain ⟨⟨hgl, hgr⟩, hl1, hr1, hlr⟩ := hnd
  have hlt := h.is.lt
  have hgt : g ∉ t'.blks := fun h9 => by
    rcases hs g h9 with h8 | h8
    · exact hgl h8
    · have := hlt g (by simp [PT.blks]); omega
  have hrt : ∀ s ∈ r.blks, s ∉ t'.blks := fun s h1 h2 => by
    rcases hs s h2 with h8 | h8
    · exact hlr s h8 s h1 rfl
    · have := hlt s (by simp [PT.blks, h1]); omega
  obtain ⟨o1, o2, o3, o4⟩ := h.ord
  refine ⟨_, _, .node g v t' r, rfl, ⟨⟨rfl, p', pr, hb, ht.is.ch hc (fun s h1 h2 => by simp at h2; exact hgt (h2 ▸ h1)), (hr.ch hch (fun s h1 h2 => hlr s h2 s h1 rfl)).ch hc (fun s h1 h2 => by simp at h2; exact hgr (h2 ▸ h1))⟩, ?_, ?_, ?_⟩, ?_, ?_, ?_, ?_⟩
  · simp only [PT.blks, List.nodup_cons, List.nodup_append, List.mem_append, not_or]
    exact ⟨⟨hgt, hgr⟩, ht.nd, hr1, fun s h1 s2 h2 e => hrt s2 h2 (e ▸ h1)⟩
  · intro s h1
    simp only [PT.blks, List.mem_cons, List.mem_append] at h1
    rcases h1 with rfl | h1 | h1
    · exact h.off s (by simp [PT.blks])
    · exact ht.off s h1
    · exact h.off s (by simp [PT.blks, h1])
  · refine ⟨fun y hy => ?_, o2, ht.ord, o4⟩
    rcases (hn y).1 hy with rfl | h1
    · exact hx
    · exact o1 y h1
  · intro s h1
    simp only [PT.blks, List.mem_cons, List.mem_append] at h1 ⊢
    rcases h1 with h1 | h1 | h1
    · exact .inl (.inl h1)
    · rcases hs s h1 with h2 | h2
      · exact .inl (.inr (.inl h2))
      · exact .inr h2
    · exact .inl (.inr (.inr h1))
  · intro y
    simp only [PT.nums, List.mem_cons, List.mem_append, hn y]
    constructor
    · rintro (h1 | (h1 | h1) | h1)
      · exact .inr (.inl h1)
      · exact .inl h1
      · exact .inr (.inr (.inl h1))
      · exact .inr (.inr (.inr h1))
    · rintro (h1 | h1 | h1 | h1)
      · exact .inr (.inl (.inl h1))
      · exact .inl h1
      · exact .inr (.inl (.inr h1))
      · exact .inr (.inr h1)
  · rw [hbb]
    simp only [PT.nums, List.mem_cons, List.mem_append, not_or]
    exact ⟨fun h1 => ⟨by omega, h1, fun h2 => by have := o2 x h2; omega⟩, fun h1 => h1.2.1⟩
  · exact (hch.sub (T := (PT.node g v l r).blks) (fun s h1 => .inl (by simp [PT.blks, h1]))).step hc (fun s h1 => .inl (by simp at h1; simp [PT.blks, h1]))
theorem with_r (h : (PT.node g v l r).OK T base w (some ⟨g, 0, none⟩)) (hl : l.Is T w pl) (hx : v < x) (hq : WithQ T base r x w (.tuple #[.pointer p', .bool b]) w1) (hb : Blk w' g T [.int .i64 v, .pointer pl, .pointer p']) (hc : Ch [g] w1 w') :
    WithQ T base (.node g v l r) x w (.tuple #[.pointer (some ⟨g, 0, none⟩), .bool b]) w' := by
  obtain ⟨p0, b0, t', he, ht, hs, hn, hbb, hch⟩ := hq
  simp only [Value.tuple.injEq, Array.mk.injEq, List.cons.injEq, Value.pointer.injEq, Value.bool.injEq, and_true] at he
  obtain ⟨rfl, rfl⟩ := he
  have hnd := h.nd
  simp only [PT.blks, List.nodup_cons, List.nodup_append, List.mem_append, not_or] at hnd
  obtain ⟨⟨hgl, hgr⟩, hl1, hr1, hlr⟩ := hnd
  have hlt := h.is.lt
  have hgt : g ∉ t'.blks := fun h9 => by
    rcases hs g h9 with h8 | h8
    · exact hgr h8
    · have := hlt g (by simp [PT.blks]); omega
  have hrt : ∀ s ∈ l.blks, s ∉ t'.blks := fun s h1 h2 => by
    rcases hs s h2 with h8 | h8
    · exact hlr s h1 s h8 rfl
    · have := hlt s (by simp [PT.blks, h1]); omega
  obtain ⟨o1, o2, o3, o4⟩ := h.ord
  refine ⟨_, _, .node g v l t', rfl, ⟨⟨rfl, pl, p', hb, (hl.ch hch (fun s h1 h2 => hlr s h1 s h2 rfl)).ch hc (fun s h1 h2 => by simp at h2; exact hgl (h2 ▸ h1)), ht.is.ch hc (fun s h1 h2 => by simp at h2; exact hgt (h2 ▸ h1))⟩, ?_, ?_, ?_⟩, ?_, ?_, ?_, ?_⟩
  · simp only [PT.blks, List.nodup_cons, List.nodup_append, List.mem_append, not_or]
    exact ⟨⟨hgl, hgt⟩, hl1, ht.nd, fun s h1 s2 h2 e => hrt s h1 (e ▸ h2)⟩
  · intro s h1
    simp only [PT.blks, List.mem_cons, List.mem_append] at h1
    rcases h1 with rfl | h1 | h1
    · exact h.off s (by simp [PT.blks])
    · exact h.off s (by simp [PT.blks, h1])
    · exact ht.off s h1
  · refine ⟨o1, fun y hy => ?_, o3, ht.ord⟩
    rcases (hn y).1 hy with rfl | h1
    · exact hx
    · exact o2 y h1
  · intro s h1
    simp only [PT.blks, List.mem_cons, List.mem_append] at h1 ⊢
    rcases h1 with h1 | h1 | h1
    · exact .inl (.inl h1)
    · exact .inl (.inr (.inl h1))
    · rcases hs s h1 with h2 | h2
      · exact .inl (.inr (.inr h2))
      · exact .inr h2
  · intro y
    simp only [PT.nums, List.mem_cons, List.mem_append, hn y]
    constructor
    · rintro (h1 | h1 | h1 | h1)
      · exact .inr (.inl h1)
      · exact .inr (.inr (.inl h1))
      · exact .inl h1
      · exact .inr (.inr (.inr h1))
    · rintro (h1 | h1 | h1 | h1)
      · exact .inr (.inr (.inl h1))
      · exact .inl h1
      · exact .inr (.inl h1)
      · exact .inr (.inr (.inr h1))
  · rw [hbb]
    simp only [PT.nums, List.mem_cons, List.mem_append, not_or]
    exact ⟨fun h1 => ⟨by omega, fun h2 => by have := o1 x h2; omega, h1⟩, fun h1 => h1.2.2⟩
  · exact (hch.sub (T := (PT.node g v l r).blks) (fun s h1 => .inl (by simp [PT.blks, h1]))).step hc (fun s h1 => .inl (by simp at h1; simp [PT.blks, h1]))
theorem with_same (h : (PT.node g v l r).OK T base w (some ⟨g, 0, none⟩)) (hx : x = v) : WithQ T base (.node g v l r) x w (.tuple #[.pointer (some ⟨g, 0, none⟩), .bool false]) w := by
  refine ⟨_, _, _, rfl, h, fun s h1 => .inl h1, fun y => ?_, ?_, Ch.refl _ _⟩
  · subst hx; simp [PT.nums]
  · subst hx; simp [PT.nums]
end
end Go.Proofs.Ythgnlljpjpklpaa

/-
  What memory holds: worlds that differ in named blocks alone; slices that read as lists; rows of the call's own; one law for each kind of operation. No conditions; proved from the library's own laws.
-/
import Derived.Test.YtdnncgapbjnfoaaTree
import Derived.Maps.AppendAt
namespace Go.Proofs.Ytdnncgapbjnfoaa
open Go Go.RowKit
set_option linter.unusedVariables false

/-! ## what has changed -/

/-- Of the blocks that were there only those of 'S' have changed. -/
structure Ch (S : List Nat) (w w' : World) : Prop where
  os : w'.os = w.os
  tape : w'.tape = w.tape
  output : w'.output = w.output
  size : w.heap.size ≤ w'.heap.size
  block : ∀ k, k < w.heap.size → k ∉ S → w'.heap[k]? = w.heap[k]?

theorem Ch.refl (S : List Nat) (w : World) : Ch S w w := ⟨rfl, rfl, rfl, Nat.le_refl _, fun _ _ _ => rfl⟩
theorem Ch.drew {S : List Nat} {a w : World} (h : Ch S a w) : Ch S a w.drew := ⟨h.os, h.tape, h.output, h.size, h.block⟩
theorem Ch.step {S T : List Nat} {a b c : World} (h : Ch S a b) (k : Ch T b c) (hT : ∀ s ∈ T, s ∈ S ∨ a.heap.size ≤ s) : Ch S a c :=
  ⟨k.os.trans h.os, k.tape.trans h.tape, k.output.trans h.output, Nat.le_trans h.size k.size, fun i hi hn =>
    (k.block i (Nat.lt_of_lt_of_le hi h.size) (fun hm => by
      rcases hT i hm with h1 | h1
      · exact hn h1
      · omega)).trans (h.block i hi hn)⟩
theorem Ch.step0 {S : List Nat} {a b c : World} (h : Ch S a b) (k : Ch [] b c) : Ch S a c := h.step k (fun s hs => by cases hs)
theorem Ch.sub {S T : List Nat} {a b : World} (h : Ch S a b) (hs : ∀ s ∈ S, s ∈ T ∨ a.heap.size ≤ s) : Ch T a b :=
  ⟨h.os, h.tape, h.output, h.size, fun k hk hn => h.block k hk (fun hm => by
    rcases hs k hm with h1 | h1
    · exact hn h1
    · omega)⟩
theorem Ch.below {a b : World} (h : Ch [] a b) : Below a.heap.size a b := ⟨h.os, h.tape, h.output, h.size, fun k hk => h.block k hk (by simp)⟩
theorem Ch.of_below {a b : World} (h : Below a.heap.size a b) : Ch [] a b := ⟨h.os, h.tape, h.output, h.size, fun k hk _ => h.block k hk⟩
theorem Ch.grown {a b : World} {row : Option Nat} (h : a.grownBy b row) : Ch row.toList a b :=
  ⟨h.os, h.tape, h.output, h.size, fun k hk hn => h.block k hk (fun e => hn (by rw [← e]; simp))⟩
theorem Ch.alloc (w : World) (o : Obj) : Ch [] w (w.alloc o) := ⟨rfl, rfl, rfl, by simp, fun k hk _ => Below.heap_alloc w o k hk⟩
theorem Ch.setCell (w : World) (a : Addr) (u : Value) : Ch [a.block] w (w.setCell a u) :=
  ⟨rfl, rfl, rfl, by simp [World.setCell], fun k hk hn => Below.heap_setCell w a u k (by simpa using hn)⟩
theorem Ch.cell {S : List Nat} {w w' : World} (h : Ch S w w') {p : Addr} {v : Value} (hp : w.cell? p = some v) (hn : p.block ∉ S) : w'.cell? p = some v :=
  (World.cell?_of_block (h.block p.block (World.block_lt_of_cell? w p hp) hn)).trans hp

/-- The block numbers of 'S' are not below 'B'. -/
def Off (B : Nat) (S : List Nat) : Prop := ∀ s ∈ S, B ≤ s
theorem off0 {B : Nat} : Off B [] := fun _ h => by cases h
theorem off1 {B g : Nat} (h : B ≤ g) : Off B [g] := fun s hs => by simp at hs; omega
theorem Off.not {B k : Nat} {S : List Nat} (h : Off B S) (hk : k < B) : k ∉ S := fun hm => by have := h k hm; omega
theorem Off.le {B B' : Nat} {S : List Nat} (h : Off B S) (hB : B' ≤ B) : Off B' S := fun s hs => Nat.le_trans hB (h s hs)
theorem Off.step {S T : List Nat} {a b c : World} (ho : Off a.heap.size T) (h : Ch S a b) (k : Ch T b c) : Ch S a c := h.step k (fun s hs => .inr (ho s hs))

/-! ## addresses -/

def adr (A : Option Addr) : Addr := A.getD ⟨0, 0, none⟩
theorem add_block (a : Addr) (n : Nat) : (a.add n).block = a.block := by unfold Addr.add; split <;> rfl
theorem add_add' (a : Addr) (i j : Nat) : (a.add i).add j = a.add (i + j) := by
  unfold Addr.add
  by_cases hi : i = 0 <;> by_cases hj : j = 0 <;> simp [hi, hj, Nat.add_assoc]
theorem add_zero' (a : Addr) : a.add 0 = a := rfl
theorem add_at (g o n : Nat) : (⟨g, o, none⟩ : Addr).add n = ⟨g, o + n, none⟩ := Addr.add_lit ..

/-! ## what is known of a type -/

def aggB : TypeDesc → Bool
  | .struct _ => true
  | .array _ _ => true
  | _ => false

structure TI (P : Program) (t : TypeId) (ag : Bool) (z : Value) (s b : Nat) : Prop where
  un : ∃ u, P.underlying t = some u ∧ aggB u = ag
  info : ∃ i, P.info? t = some i ∧ i.zero = some z ∧ i.size = s ∧ i.bytes = b

section
variable {P : Program} {t : TypeId} {u : TypeDesc} {ag : Bool} {z : Value} {s b : Nat}
theorem TI.mk' (hu : P.underlying t = some u) (ha : aggB u = ag)
    (h : (P.info? t).map (fun i => (i.zero, i.size, i.bytes)) = some (some z, s, b)) : TI P t ag z s b := ⟨⟨u, hu, ha⟩, info_parts h⟩

theorem TI.sizeOf (h : TI P t ag z s b) (w : World) : (Go.sizeOf t).run P w = .ok s w := by
  obtain ⟨i, h1, _, h2, _⟩ := h.info
  simp [Go.sizeOf, typeInfo, h1, h2]
theorem TI.zero (h : TI P t ag z s b) (w : World) : (zeroValue t).run P w = .ok z w := by
  obtain ⟨i, h1, h2, _, _⟩ := h.info
  simp [zeroValue, typeInfo, h1, h2]
theorem TI.isAgg (h : TI P t ag z s b) (w : World) : (Go.isAgg t).run P w = .ok ag w := by
  obtain ⟨u, hu, rfl⟩ := h.un
  cases u <;> simp [Go.isAgg, run_underlying hu, aggB]
end

/-- Field f of the struct type s begins at cell 'off', and is not empty. -/
def FldOK (P : Program) (s f off : Nat) : Prop := ∃ fs fd sz, P.underlying s = some (.struct fs) ∧ fs[f]? = some fd ∧ fd.offset = off ∧ (P.info? fd.type).map (·.size) = some (sz + 1)

/-- A function that has a body. -/
def Callable (P : Program) (f : FuncId) : Prop := ∃ fn, P.funcs[f]? = some fn ∧ (fn.name == "runtime.NumGoroutine") = false ∧ fn.body.isNone = false

/-! ## slices that read as lists -/

section
variable {α : Type} [Inhabited α]

def el (xs : List α) (k : Nat) : α := xs.getD k default
theorem el_eq {xs : List α} {k : Nat} (h : k < xs.length) : el xs k = xs[k] := by simp [el, List.getD, h]
theorem el_take (xs : List α) (m k : Nat) (h : k < m) : el (xs.take m) k = el xs k := by simp [el, List.getD, h]
theorem el_drop (xs : List α) (m k : Nat) : el (xs.drop m) k = el xs (m + k) := by simp [el, List.getD]

/-- The slice value '.slice A n c' reads as the list 'xs', each element being the cells 'enc x' (z of them); it lies below block B. -/
structure RS (enc : α → List Value) (z : Nat) (w : World) (B : Nat) (A : Option Addr) (n : Nat) (xs : List α) : Prop where
  len : xs.length = n
  at_ : ∀ k, k < n → A = some (adr A) ∧ (adr A).block < B ∧ ∀ j v, (enc (el xs k))[j]? = some v → w.cell? ((adr A).add (k * z + j)) = some v

variable {enc : α → List Value} {z : Nat} {w w' : World} {B B' : Nat} {A : Option Addr} {n : Nat} {xs : List α}

theorem RS.ch {S : List Nat} (h : RS enc z w B A n xs) (hc : Ch S w w') (ho : Off B S) : RS enc z w' B A n xs :=
  ⟨h.len, fun k hk => by
    obtain ⟨h1, h2, h3⟩ := h.at_ k hk
    exact ⟨h1, h2, fun j v hv => hc.cell (h3 j v hv) (by rw [add_block]; exact ho.not h2)⟩⟩
theorem RS.ch0 (h : RS enc z w B A n xs) (hc : Ch [] w w') : RS enc z w' B A n xs := h.ch hc off0
theorem RS.more (h : RS enc z w B A n xs) (hB : B ≤ B') : RS enc z w B' A n xs :=
  ⟨h.len, fun k hk => by obtain ⟨h1, h2, h3⟩ := h.at_ k hk; exact ⟨h1, Nat.lt_of_lt_of_le h2 hB, h3⟩⟩
theorem RS.nil (enc : α → List Value) (z : Nat) (w : World) (B : Nat) (A : Option Addr) : RS enc z w B A 0 [] := ⟨rfl, fun k hk => by omega⟩
theorem RS.some (h : RS enc z w B A n xs) {k : Nat} (hk : k < n) : A = Option.some (adr A) := (h.at_ k hk).1
theorem RS.cell (h : RS enc z w B A n xs) {k j : Nat} {v : Value} (hk : k < n) (hv : (enc (el xs k))[j]? = Option.some v) : w.cell? ((adr A).add (k * z + j)) = Option.some v := (h.at_ k hk).2.2 j v hv

theorem RS.cellE (h : RS enc z w B A n xs) {k j : Nat} {v : Value} (hk : k < n) (hv : (enc (el xs k))[j]? = Option.some v) : w.cell? (((adr A).add (k * z)).add j) = Option.some v := by
  rw [add_add']; exact h.cell hk hv
theorem RS.cell0 (h : RS enc z w B A n xs) {k : Nat} {v : Value} (hk : k < n) (hv : (enc (el xs k))[0]? = Option.some v) : w.cell? ((adr A).add (k * z)) = Option.some v := h.cell hk hv

/-- 's[m:]' -/
theorem RS.from (h : RS enc z w B A n xs) {m cap : Nat} (hm : m ≤ n) (hc : n ≤ cap) :
    RS enc z w B (if cap = m then A else A.map (·.add (m * z))) (n - m) (xs.drop m) := by
  refine ⟨by simp [h.len], fun k hk => ?_⟩
  rw [if_neg (by omega)]
  obtain ⟨h1, h2, h3⟩ := h.at_ (m + k) (by omega)
  have e : A.map (·.add (m * z)) = Option.some ((adr A).add (m * z)) := by rw [h1]; simp [adr]
  rw [e]
  refine ⟨rfl, by simp only [adr, Option.getD_some] at h2 ⊢; rw [add_block]; exact h2, fun j v hv => ?_⟩
  rw [el_drop] at hv
  have := h3 j v hv
  simp only [adr, Option.getD_some] at this ⊢
  rw [add_add', show m * z + (k * z + j) = (m + k) * z + j by rw [Nat.add_mul]; omega]
  exact this

/-- 's[:m]' -/
theorem RS.upto (h : RS enc z w B A n xs) {m : Nat} (hm : m ≤ n) : RS enc z w B A m (xs.take m) := by
  refine ⟨by simp [h.len]; omega, fun k hk => ?_⟩
  obtain ⟨h1, h2, h3⟩ := h.at_ k (by omega)
  exact ⟨h1, h2, fun j v hv => h3 j v (by rwa [el_take _ _ _ hk] at hv)⟩
end

theorem some_adr {A : Option Addr} {a : Addr} (h : A = some a) : adr A = a := by subst h; rfl

/-! ## rows of the call's own -/

section
variable {α : Type} {enc : α → List Value} {z : Nat} {w w' : World} {base : Nat} {e : TypeId} {v : Value} {xs : List α}

/-- 'v' is a slice of the call's own (in a block from 'base' on, nobody else's), and reads as 'xs'. -/
def Own (enc : α → List Value) (z : Nat) (w : World) (base : Nat) (e : TypeId) (v : Value) (xs : List α) : Prop :=
  w.ownsRow base e z v xs.length (xs.flatMap enc)

def obl (v : Value) : List Nat := v.ownBlock.toList

theorem Own.off (h : Own enc z w base e v xs) : Off base (obl v) := fun s hs => by
  have h1 := World.ownsRow.lt h s (by simpa [obl] using hs)
  exact h1.1
theorem Own.lt (h : Own enc z w base e v xs) : ∀ s ∈ obl v, s < w.heap.size := fun s hs => (World.ownsRow.lt h s (by simpa [obl] using hs)).2

theorem Own.ch {S : List Nat} (h : Own enc z w base e v xs) (hc : Ch S w w') (hn : ∀ s ∈ obl v, s ∉ S) : Own enc z w' base e v xs := by
  refine ⟨h.1, ?_⟩
  rcases h.2 with h0 | ⟨g, cap, cur, rfl, hb, hg, r⟩
  · exact .inl h0
  · refine .inr ⟨g, cap, cur, rfl, hb, ?_, r⟩
    rw [hc.block g (Array.getElem?_eq_some_iff.1 hg).1 (hn g (by simp [obl, Value.ownBlock]))]
    exact hg
theorem Own.ch0 (h : Own enc z w base e v xs) (hc : Ch [] w w') : Own enc z w' base e v xs := h.ch hc (fun _ _ h => by cases h)
theorem Own.less {b : Nat} (h : Own enc z w base e v xs) (hb : b ≤ base) : Own enc z w b e v xs := by
  refine ⟨h.1, ?_⟩
  rcases h.2 with h0 | ⟨g, cap, cur, rfl, hbg, r⟩
  · exact .inl h0
  · exact .inr ⟨g, cap, cur, rfl, by omega, r⟩

theorem Own.nil (enc : α → List Value) (z : Nat) (w : World) (base : Nat) (e : TypeId) : Own enc z w base e (.slice none 0 0) ([] : List α) := World.ownsRow_nil w base e z

/-- its shape -/
theorem Own.form (h : Own enc z w base e v xs) : ∃ A c, v = .slice A xs.length c ∧ xs.length ≤ c ∧ c ≤ maxLen := by
  rcases h.2 with ⟨rfl, h0⟩ | ⟨g, cap, cur, rfl, _, _, h1, h2, _⟩
  · exact ⟨none, 0, by rw [h0], by omega, by decide⟩
  · exact ⟨_, cap, rfl, h1, h2⟩

theorem flat_get [Inhabited α] (hz : ∀ x, (enc x).length = z) : ∀ (xs : List α) (k j : Nat), k < xs.length → j < z → (xs.flatMap enc)[k * z + j]? = (enc (el xs k))[j]? := by
  intro xs
  induction xs with
  | nil => intro k j hk; simp at hk
  | cons x r ih =>
    intro k j hk hj
    rw [List.flatMap_cons]
    cases k with
    | zero =>
      rw [Nat.zero_mul, Nat.zero_add, List.getElem?_append_left (by rw [hz]; exact hj)]
      rfl
    | succ k =>
      rw [List.getElem?_append_right (by rw [hz, Nat.succ_mul]; omega), hz, show (k + 1) * z + j - z = k * z + j by rw [Nat.succ_mul]; omega, ih k j (by simpa using hk) hj]
      rfl

theorem Own.rs [Inhabited α] {A : Option Addr} {n c : Nat} (h : Own enc z w base e (.slice A n c) xs) (hz : ∀ x : α, (enc x).length = z) : RS enc z w w.heap.size A n xs := by
  obtain ⟨A', c', hv, _, _⟩ := h.form
  simp only [Value.slice.injEq] at hv
  refine ⟨hv.2.1.symm, fun k hk => ?_⟩
  rcases h.2 with ⟨h0, h1⟩ | ⟨g, cap, cur, h0, hb, hg, h2⟩
  · rw [hv.2.1] at hk; omega
  · simp only [Value.slice.injEq] at h0
    obtain ⟨rfl, hn, rfl⟩ := h0
    have hgl : g < w.heap.size := (Array.getElem?_eq_some_iff.1 hg).1
    refine ⟨rfl, hgl, fun j u hu => ?_⟩
    have hj : j < z := by
      have := (List.getElem?_eq_some_iff.1 hu).1
      rwa [hz] at this
    refine World.ownsRow.cells h (g := g) rfl _ u ?_
    rw [flat_get hz xs k j (by omega) hj]
    exact hu
end
end Go.Proofs.Ytdnncgapbjnfoaa

/-
  The kinds of elements, as cells; the reader of codes. No conditions.
-/
import Derived.Test.YtdnncgapbjnfoaaWrite
namespace Go.Proofs.Ytdnncgapbjnfoaa
open Go Go.RowKit
set_option linter.unusedVariables false

theorem iv {k : IntKind} {a b : Int} (h : a = b) : Value.int k a = Value.int k b := by rw [h]

theorem w1u {n : Nat} {E : Env} {ops : Array Oper} {o : Oper} {j dj : Nat} {b : Bool} (hg : o.guard = some (j, b)) (hj : (ops[j]?).bind (·.dst) = some dj) (hv : E dj = undef) : Wanted n ops E o false := by
  intro D a ha
  have hy : yielded ops a.tmps j = none := by
    unfold yielded
    rw [hj]
    simp only [Option.bind_some]
    have h2 := ha.at_ dj
    rw [hv, Array.getD_eq_getD_getElem?] at h2
    cases h : a.tmps[dj]? with
    | none => rfl
    | some v =>
      rw [h] at h2
      simp only [Option.getD_some] at h2
      subst h2
      rfl
  simp [Region.wanted, hg, hy]

/-- whether it holds -/
noncomputable def dec (p : Prop) : Bool := @decide p (Classical.propDecidable p)
theorem dec_t {p : Prop} (h : dec p = true) : p := @of_decide_eq_true p (Classical.propDecidable p) h
theorem dec_f {p : Prop} (h : dec p = false) : ¬p := @of_decide_eq_false p (Classical.propDecidable p) h
theorem dec_yes {p : Prop} (h : p) : dec p = true := @decide_eq_true p (Classical.propDecidable p) h
theorem dec_no {p : Prop} (h : ¬p) : dec p = false := @decide_eq_false p (Classical.propDecidable p) h
theorem dec_dec {p q : Prop} [Decidable q] (h : q ↔ p) : decide q = dec p := by
  by_cases hq : q
  · rw [decide_eq_true hq, dec_yes (h.1 hq)]
  · rw [decide_eq_false hq, dec_no (fun hp => hq (h.2 hp))]
theorem dec_congr {p q : Prop} (h : p ↔ q) : dec p = dec q := by rw [propext h]
theorem bv {a b : Bool} (h : a = b) : Value.bool a = Value.bool b := by rw [h]
theorem bvt {p : Prop} (h : p) : Value.bool true = Value.bool (dec p) := by rw [dec_yes h]
theorem bvf {p : Prop} (h : ¬p) : Value.bool false = Value.bool (dec p) := by rw [dec_no h]

theorem eq_of_el {α : Type} [Inhabited α] {xs ys : List α} (hl : xs.length = ys.length) (h : ∀ j, j < xs.length → el xs j = el ys j) : xs = ys := by
  apply List.ext_getElem hl
  intro j h1 h2
  have := h j h1
  rwa [el_eq h1, el_eq h2] at this
theorem el_set {α : Type} [Inhabited α] (xs : List α) (k j : Nat) (y : α) (hk : k < xs.length) : el (xs.set k y) j = if j = k then y else el xs j := by
  by_cases hj : j = k
  · subst hj; simp [el, List.getD, hk]
  · have : k ≠ j := fun h => hj h.symm
    simp [el, List.getD, this, hj]
theorem el_app1 {α : Type} [Inhabited α] (xs : List α) (y : α) (j : Nat) : el (xs ++ [y]) j = if j < xs.length then el xs j else if j = xs.length then y else default := by
  unfold el
  simp only [List.getD_eq_getElem?_getD]
  by_cases h : j < xs.length
  · rw [if_pos h, List.getElem?_append_left h]
  · rw [if_neg h, List.getElem?_append_right (by omega)]
    by_cases h2 : j = xs.length
    · subst h2; simp
    · rw [if_neg h2, List.getElem?_eq_none (by simp; omega)]; rfl
theorem el_take_all {α : Type} (xs : List α) (k : Nat) (h : xs.length ≤ k) : xs.take k = xs := List.take_of_length_le h
theorem take_snoc {α : Type} [Inhabited α] (xs : List α) (k : Nat) (h : k < xs.length) : xs.take (k + 1) = xs.take k ++ [el xs k] := by
  rw [List.take_succ_eq_append_getElem h, el_eq h]

/-! comparisons of a thing with itself -/
section
variable {P : Program} {E : Env} {o : Oper} {k : IntKind} {t t' : TypeId} {x y : Operand}
theorem pv_eqs {a : Int} (hx : ev E x = .int k a) (hy : ev E y = .int k a) (ho : o.op = .binOp .eql t x y t') : PV P E o (.bool true) := fun u => by
  have := pv_eql (P := P) hx hy ho u
  simpa using this
theorem pv_nes {a : Int} (hx : ev E x = .int k a) (hy : ev E y = .int k a) (ho : o.op = .binOp .neq t x y t') : PV P E o (.bool false) := fun u => by
  have := pv_neq (P := P) hx hy ho u
  simpa using this
theorem pv_eqBs {a : Bool} (ht : P.underlying t = some .bool) (ho : o.op = .binOp .eql t x y t') (hx : ev E x = .bool a) (hy : ev E y = .bool a) : PV P E o (.bool true) := fun u => by
  have := pv_eqlB ht ho hx hy u
  simpa using this
theorem pv_neBs {a : Bool} (ht : P.underlying t = some .bool) (ho : o.op = .binOp .neq t x y t') (hx : ev E x = .bool a) (hy : ev E y = .bool a) : PV P E o (.bool false) := fun u => by
  have := pv_neqB ht ho hx hy u
  simpa using this
end
theorem sln {A : Option Addr} {n m c : Nat} (h : n = m) : Value.slice A n c = Value.slice A m c := by rw [h]
theorem sln2 {A : Option Addr} {n m c d : Nat} (h : n = m) (h2 : c = d) : Value.slice A n c = Value.slice A m d := by rw [h, h2]

section
variable {α : Type} {enc : α → List Value} {z : Nat} {w : World} {base : Nat} {e : TypeId} {xs L : List α} {A : Option Addr} {n c : Nat}
theorem own_as (h : Own enc z w base e (.slice A n c) xs) (he : xs = L) : Own enc z w base e (.slice A L.length c) L := by
  subst he
  obtain ⟨A', c', hv, h1, h2⟩ := h.form
  simp only [Value.slice.injEq] at hv
  obtain ⟨rfl, rfl, rfl⟩ := hv
  exact h
theorem sl_as (h : Own enc z w base e (.slice A n c) xs) (he : xs = L) : Value.slice A n c = Value.slice A L.length c := by
  subst he
  obtain ⟨A', c', hv, h1, h2⟩ := h.form
  simp only [Value.slice.injEq] at hv
  obtain ⟨rfl, rfl, rfl⟩ := hv
  rfl
end
theorem obl_n {A : Option Addr} {n c n' c' : Nat} : obl (.slice A n c) = obl (.slice A n' c') := by
  cases A <;> rfl
theorem dj_as {A B : Option Addr} {n c n' c' m d m' d' : Nat} (h : ∀ s ∈ obl (.slice A n c), s ∉ obl (.slice B m d)) : ∀ s ∈ obl (.slice A n' c'), s ∉ obl (.slice B m' d') := by
  rw [obl_n (n' := n) (c' := c), obl_n (A := B) (n' := m) (c' := d)]; exact h
theorem dj_sw {A B : Option Addr} {n c n' c' m d m' d' : Nat} (h : ∀ s ∈ obl (.slice A n c), s ∉ obl (.slice B m d)) : ∀ s ∈ obl (.slice B m' d'), s ∉ obl (.slice A n' c') := fun s h1 h2 =>
  dj_as (n' := n') (c' := c') (m' := m') (d' := d') h s h2 h1
theorem dj_asg {A : Option Addr} {n c n' c' g : Nat} (h : ∀ s ∈ obl (.slice A n c), s ≠ g) : ∀ s ∈ obl (.slice A n' c'), s ≠ g := by
  rw [obl_n (n' := n) (c' := c)]; exact h
theorem dj_newg {S U : List Nat} {N g : Nat} (hs : ∀ s ∈ U, s ∈ S ∨ N ≤ s) (h : ∀ s ∈ S, s ≠ g) (hg : g < N) : ∀ s ∈ U, s ≠ g := fun s h1 =>
  (hs s h1).elim (fun h3 => h s h3) (fun h3 => by omega)
theorem dj_new {S T U : List Nat} {N : Nat} (hs : ∀ s ∈ U, s ∈ S ∨ N ≤ s) (h : ∀ s ∈ S, s ∉ T) (hub : ∀ s ∈ T, s < N) : ∀ s ∈ U, s ∉ T := fun s h1 h2 =>
  (hs s h1).elim (fun h3 => h s h3 h2) (fun h3 => by have := hub s h2; omega)
theorem belowC {B : Nat} {S : List Nat} {a b c : World} (h : Below B a b) (hB : B ≤ b.heap.size) (ho : Off B S) (k : Ch S b c) : Below B a c :=
  ⟨k.os.trans h.os, k.tape.trans h.tape, k.output.trans h.output, Nat.le_trans h.size k.size, fun i hi => (k.block i (by omega) (ho.not hi)).trans (h.block i hi)⟩
theorem below_ch {B : Nat} {a b : World} (h : Below B a b) : ∃ S, Off B S ∧ Ch S a b :=
  ⟨(List.range a.heap.size).filter fun k => decide (B ≤ k), fun s hs => by simpa using (List.mem_filter.1 hs).2, ⟨h.os, h.tape, h.output, h.size, fun k hk hn => h.block k (by
    rcases Nat.lt_or_ge k B with h1 | h1
    · exact h1
    · exact absurd (List.mem_filter.2 ⟨List.mem_range.2 hk, by simpa using h1⟩) hn)⟩⟩
theorem tup2 {a b a' b' : Value} (h1 : a = a') (h2 : b = b') : Value.tuple #[a, b] = Value.tuple #[a', b'] := by rw [h1, h2]
theorem tup3 {a b c a' b' c' : Value} (h1 : a = a') (h2 : b = b') (h3 : c = c') : Value.tuple #[a, b, c] = Value.tuple #[a', b', c'] := by rw [h1, h2, h3]
theorem tup4 {a b c d a' b' c' d' : Value} (h1 : a = a') (h2 : b = b') (h3 : c = c') (h4 : d = d') : Value.tuple #[a, b, c, d] = Value.tuple #[a', b', c', d'] := by rw [h1, h2, h3, h4]

/-- the head of a slice, as an element -/
structure Hd where
  A : Option Addr
  n : Nat
  c : Nat
instance : Inhabited Hd := ⟨⟨none, 0, 0⟩⟩
def encH (h : Hd) : List Value := [.slice h.A h.n h.c]

def encI (x : Int) : List Value := [.int .i64 x]
def encU (x : UInt8) : List Value := [.int .u8 x.toNat]

structure Mv where
  p : Int
  f : Int
  t : Int
instance : Inhabited Mv := ⟨⟨0, 0, 0⟩⟩
def encM (m : Mv) : List Value := [.int .i64 m.p, .int .i64 m.f, .int .i64 m.t]

theorem pv_build {P : Program} {E : Env} {o : Oper} {t : TypeId} {ps : Array (Nat × Operand)} {qs : List (Nat × Value)} {v : Value} (ho : o.op = .build t ps) (hq : (ps.toList.map fun p => (p.1, ev E p.2)) = qs)
    (hb : ∀ u, (Instr.build t qs.toArray).run P u = .ok v u) : PV P E o v := fun u => by
  subst hq
  have e : (ps.map fun p => (p.1, ev E p.2)) = (ps.toList.map fun p => (p.1, ev E p.2)).toArray := by rw [← Array.toList_map, Array.toArray_toList]
  have := hb u
  rw [← e] at this
  simp only [execOp, ho]
  simp [this]

theorem ofInt_toNat (a : Int) (h0 : 0 ≤ a) (h1 : a ≤ 9223372036854775807) : (BitVec.ofInt 64 a).toNat < 2 ^ 63 := by
  rw [BitVec.toNat_ofInt]
  have : a % ((2 ^ 64 : Nat) : Int) = a := Int.emod_eq_of_lt h0 (by omega)
  rw [this]
  omega
theorem xor_nn (a b : Int) (ha : 0 ≤ a) (ha' : a ≤ 9223372036854775807) (hb : 0 ≤ b) (hb' : b ≤ 9223372036854775807) : 0 ≤ bits .xor .i64 a b ∧ bits .xor .i64 a b ≤ 9223372036854775807 := by
  have hx : (BitVec.ofInt 64 a).toNat ^^^ (BitVec.ofInt 64 b).toNat < 2 ^ 63 := Nat.xor_lt_two_pow (ofInt_toNat a ha ha') (ofInt_toNat b hb hb')
  have e : bits .xor .i64 a b = (((BitVec.ofInt 64 a).toNat ^^^ (BitVec.ofInt 64 b).toNat : Nat) : Int) := by
    show IntKind.i64.wrap ((BitVec.ofInt 64 a ^^^ BitVec.ofInt 64 b).toNat : Int) = _
    rw [BitVec.toNat_xor, wrap_ok (by omega) (by omega)]
  rw [e]
  omega

/-- The reader lies in block g (of type t), reads the code's first bytes, and has read at most N times. -/
def Rd (t : TypeId) (w : World) (g : Nat) (N : Nat) : Prop :=
  ∃ A n c p bs, Blk w g t [.slice A n c, .int .i64 p] ∧ n ≤ 2000 ∧ RS encU 1 w g A n bs ∧ 0 ≤ p ∧ p ≤ N

theorem Rd.ch {t : TypeId} {w w' : World} {g N : Nat} {S : List Nat} (h : Rd t w g N) (hc : Ch S w w') (ho : Off (g + 1) S) : Rd t w' g N := by
  obtain ⟨A, n, c, p, bs, h1, h2, h3, h4, h5⟩ := h
  exact ⟨A, n, c, p, bs, h1.ch hc (ho.not (by omega)), h2, h3.ch hc (ho.le (by omega)), h4, h5⟩
theorem Rd.ch0 {t : TypeId} {w w' : World} {g N : Nat} (h : Rd t w g N) (hc : Ch [] w w') : Rd t w' g N := h.ch hc off0
theorem Rd.lt {t : TypeId} {w : World} {g N : Nat} (h : Rd t w g N) : g < w.heap.size := by
  obtain ⟨A, n, c, p, bs, h1, _⟩ := h
  exact h1.lt
theorem Rd.up {t : TypeId} {w : World} {g N M : Nat} (h : Rd t w g N) (hM : N ≤ M) : Rd t w g M := by
  obtain ⟨A, n, c, p, bs, h1, h2, h3, h4, h5⟩ := h
  exact ⟨A, n, c, p, bs, h1, h2, h3, h4, by omega⟩

section
variable {P : Program} {n : Nat} {D : List Deferred} {E : Env} {w : World} {ops : Array Oper} {o : Oper} {K : Env → World → Prop}
variable {α : Type} [Inhabited α] {enc : α → List Value} {z : Nat} {base : Nat} {e : TypeId} {xs : List α} {m c : Nat} {A : Option Addr}
/-- a store into an element of a row of the call's own, whatever its address -/
theorem op_store_ownA {t : TypeId} {ag : Bool} {zv : Value} {sz by' k off : Nat} {v : Value} {x y : Operand} (y' : α) (ht : TI P t ag zv sz by') (hown : Own enc z w base e (.slice A m c) xs) (hz : ∀ x, (enc x).length = z) (hw : Wanted n ops E o true) (hd : o.dst = none)
    (ho : o.op = .store t x y) (hx : ev E x = .pointer (some (((adr A).add (k * z)).add off))) (hy : ev E y = v) (hv : v.cells.size = sz) (hone : ∀ u ∈ v.cells.toList, u.oneCell' = true) (hk : k < m) (hfit : off + sz ≤ z)
    (hy' : enc y' = put (enc (el xs k)) off v.cells.toList)
    (h : ∀ w', Own enc z w' base e (.slice A m c) (xs.set k y') → Ch (obl (.slice A m c)) w w' → K E w') : OpW P n D ops o K E w := by
  rcases hown.2 with ⟨h0, h1⟩ | ⟨g, cap, cur, h0, _⟩
  · simp only [Value.slice.injEq] at h0
    omega
  · simp only [Value.slice.injEq] at h0
    obtain ⟨rfl, _, _⟩ := h0
    exact op_store_own y' ht hown hz hw hd ho hx hy hv hone hk hfit hy' h
end
end Go.Proofs.Ytdnncgapbjnfoaa

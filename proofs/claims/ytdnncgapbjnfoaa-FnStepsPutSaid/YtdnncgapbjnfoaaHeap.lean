/-
  The operations that make or write memory. No conditions; proved from the library's own laws.
-/
import Derived.Test.YtdnncgapbjnfoaaOps
namespace Go.Proofs.Ytdnncgapbjnfoaa
open Go Go.RowKit
set_option linter.unusedVariables false

/-! ## a block that is known whole -/

def Blk (w : World) (g : Nat) (t : TypeId) (cs : List Value) : Prop := w.heap[g]? = some (.cells cs.toArray t (0, 0))

section
variable {w w' : World} {g : Nat} {t : TypeId} {cs : List Value}
theorem Blk.lt (h : Blk w g t cs) : g < w.heap.size := (Array.getElem?_eq_some_iff.1 h).1
theorem Blk.cell (h : Blk w g t cs) {i : Nat} {v : Value} (hv : cs[i]? = some v) : w.cell? ⟨g, i, none⟩ = some v := by
  rw [cell_of_row w g i _ t (0, 0) h]
  simpa using hv
theorem Blk.cellA (h : Blk w g t cs) {i : Nat} {v : Value} (hv : cs[i]? = some v) : w.cell? ((⟨g, 0, none⟩ : Addr).add i) = some v := by
  rw [add_at, Nat.zero_add]
  exact h.cell hv
theorem Blk.free (h : Blk w g t cs) (i : Nat) : w.frozen? ⟨g, i, none⟩ = false := frozen_of_row w g i _ t h
theorem Blk.ch {S : List Nat} (h : Blk w g t cs) (hc : Ch S w w') (hg : g ∉ S) : Blk w' g t cs := (hc.block g h.lt hg).trans h
theorem Blk.ch0 (h : Blk w g t cs) (hc : Ch [] w w') : Blk w' g t cs := h.ch hc (by simp)
theorem Blk.new (w : World) (t : TypeId) (cs : List Value) : Blk (w.alloc (.cells cs.toArray t)) w.heap.size t cs := heap_alloc_new w _
theorem Blk.set (h : Blk w g t cs) (i : Nat) (u : Value) : Blk (w.setCell ⟨g, i, none⟩ u) g t (cs.set i u) := by
  have := heap_setCell_same w g i _ t u h
  simpa [Blk] using this
theorem Blk.own {α : Type} {enc : α → List Value} {z : Nat} {base n : Nat} {xs : List α} (h : Blk w g t (xs.flatMap enc)) (hb : base ≤ g) (hn : xs.length = n) (hm : n ≤ maxLen) (hl : (xs.flatMap enc).length = n * z) :
    Own enc z w base t (.slice (some ⟨g, 0, none⟩) n n) xs := by
  subst hn
  exact ⟨hl, .inr ⟨g, _, _, rfl, hb, h, Nat.le_refl _, hm, by simpa using hl, List.take_of_length_le (by show (xs.flatMap enc).length ≤ _; omega)⟩⟩
end

theorem flat_len {α : Type} {enc : α → List Value} {z : Nat} (hz : ∀ x, (enc x).length = z) (xs : List α) : (xs.flatMap enc).length = xs.length * z := by
  induction xs with
  | nil => simp
  | cons x r ih => simp only [List.flatMap_cons, List.length_append, ih, hz, List.length_cons, Nat.succ_mul]; omega

theorem flat_set {α : Type} {enc : α → List Value} {z : Nat} (hz : ∀ x, (enc x).length = z) (xs : List α) (k : Nat) (y : α) (hk : k < xs.length) :
    (xs.set k y).flatMap enc = (xs.flatMap enc).take (k * z) ++ enc y ++ (xs.flatMap enc).drop (k * z + z) := by
  induction xs generalizing k with
  | nil => simp at hk
  | cons x r ih =>
    cases k with
    | zero =>
      have h1 : ((enc x) ++ r.flatMap enc).drop z = r.flatMap enc := by rw [← hz x]; simp
      simp [h1]
    | succ k =>
      have hk' : k < r.length := by simpa using hk
      have h1 : ((enc x) ++ r.flatMap enc).take ((k + 1) * z) = enc x ++ (r.flatMap enc).take (k * z) := by
        rw [List.take_append, List.take_of_length_le (by rw [hz, Nat.succ_mul]; omega), hz, show (k + 1) * z - z = k * z by rw [Nat.succ_mul]; omega]
      have h2 : ((enc x) ++ r.flatMap enc).drop ((k + 1) * z + z) = (r.flatMap enc).drop (k * z + z) := by
        rw [List.drop_append, List.drop_of_length_le (by rw [hz, Nat.succ_mul]; omega), hz, List.nil_append, show (k + 1) * z + z - z = k * z + z by rw [Nat.succ_mul]; omega]
      simp only [List.set_cons_succ, List.flatMap_cons, ih k hk', h1, h2, List.append_assoc]

section
variable {P : Program} {n : Nat} {D : List Deferred} {E : Env} {w : World} {ops : Array Oper} {o : Oper} {K : Env → World → Prop}

/-- A pure operation, as a step. -/
theorem op_pv {d : Nat} {v : Value} (hw : Wanted n ops E o true) (hd : o.dst = some d) (hn : Nat.blt d n = true) (hp : PV P E o v) (h : K (upd E d v) w) : OpW P n D ops o K E w :=
  op_val hw hd hn (hp w) h
theorem op_lv {d : Nat} {v : Value} (hw : Wanted n ops E o true) (hd : o.dst = some d) (hn : Nat.blt d n = true) (hp : LV P E o v w) (h : K (upd E d v) w) : OpW P n D ops o K E w :=
  op_val hw hd hn hp h

/-! ways that part on a Bool in a slot -/

theorem upd_self (E : Env) (d : Nat) : upd E d (E d) = E := by
  funext t
  simp only [upd]
  cases h : Nat.beq t d with
  | true => have := Nat.eq_of_beq_eq_true h; subst this; rfl
  | false => rfl
theorem split_slot {b : Bool} {X : Env → Prop} (d : Nat) (hb : E d = .bool b) (ht : b = true → X (upd E d (.bool true))) (hf : b = false → X (upd E d (.bool false))) : X E := by
  rw [← upd_self E d, hb]
  cases b
  · exact hf rfl
  · exact ht rfl
theorem rw_split {b : Bool} {l : List Oper} (d : Nat) (hb : E d = .bool b) (ht : b = true → RW P n D ops l K (upd E d (.bool true)) w) (hf : b = false → RW P n D ops l K (upd E d (.bool false)) w) : RW P n D ops l K E w :=
  split_slot (X := fun E => RW P n D ops l K E w) d hb ht hf
theorem tw_split {b : Bool} {C : World → Prop} {t : OT} (d : Nat) (hb : E d = .bool b) (ht : b = true → TW P n D ops C t K (upd E d (.bool true)) w) (hf : b = false → TW P n D ops C t K (upd E d (.bool false)) w) : TW P n D ops C t K E w :=
  split_slot (X := fun E => TW P n D ops C t K E w) d hb ht hf

theorem not_t {b : Bool} (h : (!b) = true) : b = false := by cases b <;> simp_all
theorem not_f {b : Bool} (h : (!b) = false) : b = true := by cases b <;> simp_all

theorem one_all {l : List Value} (h : l.all Value.oneCell' = true) : ∀ u ∈ l, u.oneCell' = true := List.all_eq_true.mp h

/-! ends -/
theorem fin1 {t : Nat} {v : Value} {S : Value → World → Prop} (hv : E t = v) (h : S v w) : FQ P #[.tmp t] S .ret E w := ⟨v, res1 hv, h⟩
theorem fin2 {t u : Nat} {x y : Value} {S : Value → World → Prop} (hx : E t = x) (hy : E u = y) (h : S (.tuple #[x, y]) w) : FQ P #[.tmp t, .tmp u] S .ret E w := ⟨_, res2 hx hy, h⟩
theorem fin3 {t u s : Nat} {x y z : Value} {S : Value → World → Prop} (hx : E t = x) (hy : E u = y) (hz : E s = z) (h : S (.tuple #[x, y, z]) w) : FQ P #[.tmp t, .tmp u, .tmp s] S .ret E w := ⟨_, res3 hx hy hz, h⟩
theorem fin4 {t u s r : Nat} {x y z q : Value} {S : Value → World → Prop} (hx : E t = x) (hy : E u = y) (hz : E s = z) (hq : E r = q) (h : S (.tuple #[x, y, z, q]) w) : FQ P #[.tmp t, .tmp u, .tmp s, .tmp r] S .ret E w := ⟨_, res4 hx hy hz hq, h⟩
theorem fin0 {S : Value → World → Prop} (h : S (.tuple #[]) w) : FQ P #[] S .ret E w := ⟨_, res0, h⟩
theorem fin0n {S : Value → World → Prop} (h : S (.tuple #[]) w) : FQ P #[] S .normal E w := ⟨_, res0, h⟩

/-! ## new blocks -/

theorem op_box {d : Nat} {t : TypeId} {x : Operand} {v : Value} (hw : Wanted n ops E o true) (hd : o.dst = some d) (hn : Nat.blt d n = true) (ho : o.op = .box t x) (hx : ev E x = v)
    (h : ∀ g w', w.heap.size ≤ g → g < w'.heap.size → Blk w' g t v.cells.toList → Ch [] w w' → K (upd E d (.pointer (some ⟨g, 0, none⟩))) w') : OpW P n D ops o K E w := by
  refine op_val hw hd hn (v := .pointer (some ⟨w.heap.size, 0, none⟩)) (w' := w.alloc (.cells v.cells t)) ?_ (h _ _ (Nat.le_refl _) (by simp) ?_ (Ch.alloc w _))
  · subst hx
    simp only [execOp, ho, Instr.box, newVar, newRow, newObj]
    rfl
  · have := Blk.new w t v.cells.toList
    simpa using this

theorem op_alloc {d : Nat} {t : TypeId} {ag : Bool} {zv : Value} {z by' : Nat} (ht : TI P t ag zv z by') (hw : Wanted n ops E o true) (hd : o.dst = some d) (hn : Nat.blt d n = true) (ho : o.op = .alloc t)
    (h : ∀ g w', w.heap.size ≤ g → g < w'.heap.size → Blk w' g t zv.cells.toList → Ch [] w w' → K (upd E d (.pointer (some ⟨g, 0, none⟩))) w') : OpW P n D ops o K E w := by
  refine op_val hw hd hn (v := .pointer (some ⟨w.heap.size, 0, none⟩)) (w' := w.alloc (.cells zv.cells t)) ?_ (h _ _ (Nat.le_refl _) (by simp) ?_ (Ch.alloc w _))
  · simp only [execOp, ho, Instr.alloc]
    simp [ht.zero, newVar, newRow, newObj, Sem.run]
  · have := Blk.new w t zv.cells.toList
    simpa using this

/-! a slice written out -/

def numb (j : Nat) : List Value → List (Nat × Value)
  | [] => []
  | v :: r => (j, v) :: numb (j + 1) r

theorem fold_set (cs : List Value) : ∀ (off j : Nat) (l : Array Value), off + j + cs.length ≤ l.size →
    ((cs.zipIdx j).foldl (fun (a : Array Value) (p : Value × Nat) => a.setIfInBounds (off + p.2) p.1) l).toList = l.toList.take (off + j) ++ cs ++ l.toList.drop (off + j + cs.length) := by
  induction cs with
  | nil => intro off j l _; simp
  | cons c r ih =>
    intro off j l hl
    simp only [List.length_cons] at hl
    simp only [List.zipIdx_cons, List.foldl_cons]
    rw [show off + j + (c :: r).length = off + (j + 1) + r.length by simp only [List.length_cons]; omega]
    rw [ih off (j + 1) (l.setIfInBounds (off + j) c) (by simp; omega)]
    have h1 : (l.toList.set (off + j) c).take (off + (j + 1)) = l.toList.take (off + j) ++ [c] := by
      rw [show off + (j + 1) = off + j + 1 by omega, List.take_succ_eq_append_getElem (by simp; omega), List.take_set_of_le (Nat.le_refl _)]
      simp
    have h2 : (l.toList.set (off + j) c).drop (off + (j + 1) + r.length) = l.toList.drop (off + (j + 1) + r.length) := by
      rw [List.drop_set_of_lt (by omega)]
    simp only [Array.toList_setIfInBounds, h1, h2, List.append_assoc, List.singleton_append]

theorem fill_numb (z : Nat) : ∀ (vs : List Value) (j : Nat) (l : Array Value), (∀ v ∈ vs, v.cells.size = z) → (j + vs.length) * z ≤ l.size →
    ∃ l', Instr.fill (fun i => some (i * z, z)) l (numb j vs) = some l' ∧ l'.toList = l.toList.take (j * z) ++ vs.flatMap (fun v => v.cells.toList) ++ l.toList.drop ((j + vs.length) * z) := by
  intro vs
  induction vs with
  | nil => intro j l _ _; exact ⟨l, rfl, by simp⟩
  | cons v r ih =>
    intro j l hv hl
    have hv0 : v.cells.size = z := hv v (by simp)
    have hlen : (j + (v :: r).length) * z = (j + 1 + r.length) * z := by simp only [List.length_cons]; congr 1; omega
    rw [hlen] at hl
    have e1 : (j + 1 + r.length) * z = j * z + z + r.length * z := by rw [Nat.add_mul, Nat.succ_mul]
    have hb : j * z + v.cells.size ≤ l.size := by rw [hv0]; omega
    have hfold : (v.cells.zipIdx.foldl (fun (cs : Array Value) (p : Value × Nat) => cs.setIfInBounds (j * z + p.2) p.1) l).toList = l.toList.take (j * z) ++ v.cells.toList ++ l.toList.drop (j * z + z) := by
      have := fold_set v.cells.toList (j * z) 0 l (by simpa using hb)
      simp only [Nat.add_zero, Array.length_toList, hv0] at this
      rw [← this, ← Array.foldl_toList]
      simp
    have hsz : (v.cells.zipIdx.foldl (fun (cs : Array Value) (p : Value × Nat) => cs.setIfInBounds (j * z + p.2) p.1) l).size = l.size := by
      rw [← Array.length_toList, hfold]
      simp
      omega
    obtain ⟨l', h1, h2⟩ := ih (j + 1) _ (fun x hx => hv x (by simp [hx])) (by rw [hsz]; exact hl)
    refine ⟨l', ?_, ?_⟩
    · simp only [numb, Instr.fill]
      rw [if_neg (by simp [hv0]; omega)]
      exact h1
    · have h3 : (j * z + z) = (j + 1) * z := by rw [Nat.succ_mul]
      have e2 : (l.toList.take (j * z)).length = j * z := by simp; omega
      have e3 : v.cells.toList.length = z := by simpa using hv0
      rw [h2, hfold, ← h3, hlen]
      have t1 : (l.toList.take (j * z) ++ v.cells.toList ++ l.toList.drop (j * z + z)).take (j * z + z) = l.toList.take (j * z) ++ v.cells.toList := by
        rw [List.take_append_of_le_length (by simp [e2, e3]), List.take_of_length_le (by simp [e2, e3])]
      have t2 : (l.toList.take (j * z) ++ v.cells.toList ++ l.toList.drop (j * z + z)).drop ((j + 1 + r.length) * z) = l.toList.drop ((j + 1 + r.length) * z) := by
        rw [List.drop_append, List.drop_of_length_le (by simp [e2, e3]; omega), List.nil_append, List.drop_drop]
        congr 1
        simp [e2, e3]
        omega
      rw [t1, t2]
      simp
end
end Go.Proofs.Ytdnncgapbjnfoaa

/-
  make, append, copy and stores, upon rows of the call's own. No conditions; proved from the library's own laws.
-/
import Derived.Test.YtdnncgapbjnfoaaHeap
namespace Go.Proofs.Ytdnncgapbjnfoaa
open Go Go.RowKit
set_option linter.unusedVariables false

section
variable {P : Program} {n : Nat} {D : List Deferred} {E : Env} {w : World} {ops : Array Oper} {o : Oper} {K : Env → World → Prop}

theorem op_bslice {d t e m : Nat} {ag : Bool} {zv : Value} {z by' : Nat} {ps : Array (Nat × Operand)} (vs : List Value) (ht : P.underlying t = some (.slice e)) (hz : TI P e ag zv z by')
    (hw : Wanted n ops E o true) (hd : o.dst = some d) (hn : Nat.blt d n = true) (ho : o.op = .buildSlice t m ps) (hps : (ps.toList.map fun p => (p.1, ev E p.2)) = numb 0 vs) (hm : vs.length = m)
    (hv : ∀ v ∈ vs, v.cells.size = z) (hs : m * z ≤ 16777216)
    (h : ∀ g w', w.heap.size ≤ g → g < w'.heap.size → Blk w' g e (vs.flatMap fun v => v.cells.toList) → Ch [] w w' → K (upd E d (.slice (some ⟨g, 0, none⟩) m m)) w') : OpW P n D ops o K E w := by
  subst hm
  have key : ∀ zc : Array Value, ∃ l', Instr.fill (fun i => some (i * z, z)) ((Array.range (vs.length * z)).map (fun i => zc[i % zc.size]!)) (numb 0 vs) = some l' ∧ l'.toList = vs.flatMap (fun v => v.cells.toList) := by
    intro zc
    obtain ⟨l', h1, h2⟩ := fill_numb z vs 0 ((Array.range (vs.length * z)).map (fun i => zc[i % zc.size]!)) hv (by simp)
    refine ⟨l', h1, ?_⟩
    rw [h2]
    simp
  have hrun : ∃ l' : Array Value, (execOp (ev E) o).run P w = .ok (.value (.slice (some ⟨w.heap.size, 0, none⟩) vs.length vs.length)) (w.alloc (.cells l' e)) ∧ l'.toList = vs.flatMap (fun v => v.cells.toList) := by
    by_cases h0 : vs.length * z = 0
    · obtain ⟨l', h1, h2⟩ := key #[]
      refine ⟨l', ?_, h2⟩
      rw [h0] at h1
      simp [execOp, ho, Instr.buildSlice, run_underlying ht, hz.sizeOf, h0, hps, newRow, newObj]
      simp at h1
      simp [h1, Sem.run]
    · obtain ⟨l', h1, h2⟩ := key zv.cells
      refine ⟨l', ?_, h2⟩
      simp [execOp, ho, Instr.buildSlice, run_underlying ht, hz.sizeOf, hz.zero, h0, Nat.not_lt.2 hs, hps, h1, newRow, newObj, Sem.run]
  obtain ⟨l', h1, h2⟩ := hrun
  refine op_val hw hd hn h1 (h _ _ (Nat.le_refl _) (by simp) ?_ (Ch.alloc w _))
  have := Blk.new w e l'.toList
  rw [h2] at this
  simpa [← h2] using this

section
variable {α : Type} [Inhabited α] {enc : α → List Value} {z : Nat} {base : Nat} {e : TypeId} {v : Value} {xs ys : List α}

theorem made_eq (hz : ∀ x, (enc x).length = z) (zv : Value) (x0 : α) (h0 : zv.cells.toList = enc x0) (hz0 : 0 < z) (m : Nat) : (madeCells zv.cells (m * z)).toList = (List.replicate m x0).flatMap enc := by
  have hzs : zv.cells.size = z := by rw [← Array.length_toList, h0, hz]
  apply List.ext_getElem?
  intro i
  have hl : ((List.replicate m x0).flatMap enc).length = m * z := by rw [flat_len hz]; simp
  by_cases hi : i < m * z
  · have hk : i / z < m := (Nat.div_lt_iff_lt_mul hz0).2 hi
    have hj : i % z < z := Nat.mod_lt _ hz0
    have e1 : i = i / z * z + i % z := by rw [Nat.mul_comm]; exact (Nat.div_add_mod i z).symm
    have h2 : ((List.replicate m x0).flatMap enc)[i]? = (enc x0)[i % z]? := by
      conv => lhs; rw [e1]
      rw [flat_get hz _ _ _ (by simpa using hk) hj]
      simp [el, List.getD, hk]
    rw [h2, ← h0]
    simp only [madeCells]
    simp [hi, hzs, hj]
  · rw [List.getElem?_eq_none (by simp [madeCells]; omega), List.getElem?_eq_none (by rw [hl]; omega)]

theorem op_make {d t : Nat} {ag : Bool} {zv : Value} {by' : Nat} {x y : Operand} (m : Nat) (x0 : α) (ht : P.underlying t = some (.slice e)) (hti : TI P e ag zv z by') (hz : ∀ x, (enc x).length = z) (h0 : zv.cells.toList = enc x0) (hz0 : 0 < z)
    (hw : Wanted n ops E o true) (hd : o.dst = some d) (hn : Nat.blt d n = true) (ho : o.op = .makeSlice t x y) (hx : ev E x = .int .i64 m) (hy : ev E y = .int .i64 m) (hb : by' * m ≤ 281474976710656) (hm : m ≤ maxLen)
    (h : ∀ g w', w.heap.size ≤ g → g < w'.heap.size → Own enc z w' w.heap.size e (.slice (some ⟨g, 0, none⟩) m m) (List.replicate m x0) → Ch [] w w' → K (upd E d (.slice (some ⟨g, 0, none⟩) m m)) w') : OpW P n D ops o K E w := by
  obtain ⟨i, hi, hi0, hi1, hi2⟩ := hti.info
  obtain ⟨w', hrun, hown, hg⟩ := run_make_full (P := P) w w.heap.size t e i zv z ht hi hi0 hi1 .i64 .i64 m (by rw [hi2]; exact hb) hm (Nat.le_refl _)
  have hlt : w.heap.size < w'.heap.size := (World.ownsRow.lt hown w.heap.size rfl).2
  refine op_val hw hd hn (w' := w') ?_ (h _ _ (Nat.le_refl _) hlt ?_ (Ch.grown hg))
  · simp [execOp, ho, hx, hy, hrun]
  · unfold Own
    rw [List.length_replicate, ← made_eq hz zv x0 h0 hz0 m]
    exact hown

theorem rs_cells (hz : ∀ x : α, (enc x).length = z) {B : Nat} {a : Addr} {m : Nat} (hr : RS enc z w B (some a) m ys) : ∀ j u, (ys.flatMap enc)[j]? = some u → w.cell? (a.add j) = some u := by
  intro j u hu
  have hj := (List.getElem?_eq_some_iff.1 hu).1
  rw [flat_len hz] at hj
  have hz0 : 0 < z := by
    rcases Nat.eq_zero_or_pos z with h | h
    · subst h; simp at hj
    · exact h
  have hk : j / z < ys.length := (Nat.div_lt_iff_lt_mul hz0).2 hj
  have e1 : j = j / z * z + j % z := by rw [Nat.mul_comm]; exact (Nat.div_add_mod j z).symm
  rw [e1, flat_get hz _ _ _ hk (Nat.mod_lt _ hz0)] at hu
  have := hr.cell (by rw [← hr.len]; exact hk) hu
  rw [← e1] at this
  exact this

theorem op_append {d t : Nat} {ag : Bool} {zv : Value} {by' : Nat} {s x : Operand} {A : Option Addr} {m c B : Nat} (ht : P.underlying t = some (.slice e)) (hti : TI P e ag zv z by') (hz : ∀ x, (enc x).length = z) (hzs : zv.cells.size = z) (hz0 : 0 < z) (h1 : ∀ x, ∀ u ∈ enc x, u.oneCell' = true)
    (hw : Wanted n ops E o true) (hd : o.dst = some d) (hn : Nat.blt d n = true) (ho : o.op = .call { callee := .builtin .append, args := #[s, x], argTypes := #[t, t] })
    (hs : ev E s = v) (hx : ev E x = .slice A m c) (hown : Own enc z w base e v xs) (hr : RS enc z w B A m ys) (hm : xs.length + m ≤ maxLen) (hb : (xs.length + m) * by' ≤ 140737488355328) (hbase : base ≤ w.heap.size)
    (h : ∀ v' w', Own enc z w' base e v' (xs ++ ys) → Ch (obl v) w w' → (∀ s ∈ obl v', s ∈ obl v ∨ w.heap.size ≤ s) → K (upd E d v') w') : OpW P n D ops o K E w := by
  obtain ⟨i, hi, hi0, hi1, hi2⟩ := hti.info
  have key : ∃ v' w', (Builtin.append_ #[t, t] o.type #[v, .slice A m c]).run P w = .ok v' w' ∧ Own enc z w' base e v' (xs ++ ys) ∧ Ch (obl v) w w' ∧ (∀ s ∈ obl v', s ∈ obl v ∨ w.heap.size ≤ s) := by
    cases A with
    | none =>
      have hm0 : m = 0 := by
        rcases Nat.eq_zero_or_pos m with h0 | h0
        · exact h0
        · have := hr.some h0; cases this
      subst hm0
      have hy : ys = [] := List.eq_nil_of_length_eq_zero hr.len
      subst hy
      refine ⟨v, w, ?_, by simpa using hown, Ch.refl _ _, fun s hs => .inl hs⟩
      rcases hown.2 with ⟨rfl, h0⟩ | ⟨g, cap, cur, rfl, _, _, hnc, _⟩
      · simp [Builtin.append_, run_underlying ht, hti.sizeOf, Builtin.lenOf, Builtin.firstCells]
      · simp [Builtin.append_, run_underlying ht, hti.sizeOf, Builtin.lenOf, Builtin.firstCells, hnc, storeCells]
    | some a =>
      have hl : (ys.flatMap enc).length = m * z := by rw [flat_len hz, hr.len]
      obtain ⟨v', w', hrun, hown', hg, _, hblk⟩ := run_append_own_at (P := P) w base t o.type e i zv z by' ht hi hi0 hi1 hi2 hzs hz0 v xs.length (xs.flatMap enc) hown a m c (ys.flatMap enc) hl (rs_cells hz hr)
        (fun u hu => by obtain ⟨x, _, hx⟩ := List.mem_flatMap.1 hu; exact h1 x u hx) hm hb hbase
      refine ⟨v', w', hrun, ?_, Ch.grown hg, fun s hs => ?_⟩
      · unfold Own
        rw [List.length_append, hr.len, List.flatMap_append]
        exact hown'
      · rcases hblk with hb | hb
        · left; simpa [obl, hb] using hs
        · right
          simp [obl, hb] at hs
          omega
  obtain ⟨v', w', hrun, h2, h3, h4⟩ := key
  refine op_val hw hd hn (w' := w') ?_ (h v' w' h2 h3 h4)
  simp [execOp, ho, resolve, invoke, builtin, hs, hx, hrun]
end

/-! ## stores -/

def put (l : List Value) (off : Nat) (cs : List Value) : List Value := l.take off ++ cs ++ l.drop (off + cs.length)

theorem put_len (l : List Value) (off : Nat) (cs : List Value) (h : off + cs.length ≤ l.length) : (put l off cs).length = l.length := by
  simp [put]; omega

theorem run_store_blk {g : Nat} {t e : TypeId} {ag : Bool} {zv : Value} {z by' : Nat} {cur : List Value} {off : Nat} {v : Value} (ht : TI P t ag zv z by') (hb : Blk w g e cur) (hv : v.cells.size = z) (hone : ∀ u ∈ v.cells.toList, u.oneCell' = true)
    (hfit : off + z ≤ cur.length) :
    ∃ w', (Instr.storeAt t (.pointer (some ⟨g, off, none⟩)) v).run P w = .ok () w' ∧ Blk w' g e (put cur off v.cells.toList) ∧ Ch [g] w w' := by
  have hs := run_storeCells_at P g off e v.cells.toList 0 cur.toArray w hb (by simp [hv]; omega) hone
  refine ⟨_, ?_, setRow_heap w g cur.toArray _ e (0, 0) hb, ⟨rfl, rfl, rfl, by simp, fun k _ hk => setRow_other w g k _ (by simpa using hk)⟩⟩
  simp only [Nat.add_zero] at hs
  simp [Instr.storeAt, Instr.sureAddr, storeVar, ht.sizeOf, hv, hs, put]

theorem op_store_blk {g : Nat} {t e : TypeId} {ag : Bool} {zv : Value} {z by' : Nat} {cur : List Value} {off : Nat} {v : Value} {x y : Operand} (ht : TI P t ag zv z by') (hb : Blk w g e cur) (hw : Wanted n ops E o true) (hd : o.dst = none)
    (ho : o.op = .store t x y) (hx : ev E x = .pointer (some ⟨g, off, none⟩)) (hy : ev E y = v) (hv : v.cells.size = z) (hone : ∀ u ∈ v.cells.toList, u.oneCell' = true) (hfit : off + z ≤ cur.length)
    (h : ∀ w', Blk w' g e (put cur off v.cells.toList) → Ch [g] w w' → K E w') : OpW P n D ops o K E w := by
  obtain ⟨w', h1, h2, h3⟩ := run_store_blk (P := P) ht hb hv hone hfit
  refine op_skip hw hd (w' := w') ?_ (h w' h2 h3)
  simp [execOp, ho, hx, hy, h1]

section
variable {α : Type} {enc : α → List Value} {z : Nat} {base : Nat} {e : TypeId} {xs ys : List α} {g m c : Nat}

theorem Own.blk (h : Own enc z w base e (.slice (some ⟨g, 0, none⟩) m c) xs) : ∃ cur, Blk w g e cur ∧ cur.take (m * z) = xs.flatMap enc ∧ cur.length = c * z ∧ m ≤ c ∧ c ≤ maxLen ∧ xs.length = m ∧ base ≤ g := by
  rcases h.2 with ⟨h0, _⟩ | ⟨g', cap, cur, h0, hb, hg, h1, h2, h3, h4⟩
  · cases h0
  · simp only [Value.slice.injEq, Option.some.injEq, Addr.mk.injEq, and_true] at h0
    obtain ⟨rfl, rfl, rfl⟩ := h0
    exact ⟨cur.toList, by simpa [Blk] using hg, h4, by simpa using h3, h1, h2, rfl, hb⟩

theorem Own.of_blk {cur : List Value} (hb : Blk w g e cur) (h1 : cur.take (m * z) = xs.flatMap enc) (h2 : cur.length = c * z) (h3 : m ≤ c) (h4 : c ≤ maxLen) (h5 : xs.length = m) (hg : base ≤ g) (hz : ∀ x, (enc x).length = z) :
    Own enc z w base e (.slice (some ⟨g, 0, none⟩) m c) xs := by
  subst h5
  exact ⟨by rw [flat_len hz], .inr ⟨g, c, _, rfl, hg, hb, h3, h4, by simpa using h2, by simpa using h1⟩⟩

variable [Inhabited α]

theorem put_flat (hz : ∀ x, (enc x).length = z) (k off : Nat) (cs : List Value) (y : α) (hk : k < xs.length) (hfit : off + cs.length ≤ z) (hy : enc y = put (enc (el xs k)) off cs) :
    put (xs.flatMap enc) (k * z + off) cs = (xs.set k y).flatMap enc := by
  rw [flat_set hz xs k y hk, hy]
  have e0 : (xs.flatMap enc).drop (k * z) = enc (el xs k) ++ (xs.flatMap enc).drop (k * z + z) := by
    have h1 : (xs.set k (el xs k)) = xs := by rw [el_eq hk]; simp
    have h2 := flat_set hz xs k (el xs k) hk
    rw [h1] at h2
    have hl : ((xs.flatMap enc).take (k * z)).length = k * z := by
      rw [List.length_take, flat_len hz]
      have := Nat.mul_le_mul_right z (Nat.le_of_lt hk)
      omega
    conv => lhs; rw [h2]
    rw [List.append_assoc, List.drop_append, List.drop_of_length_le (by omega), hl]
    simp
  have hle := hz (el xs k)
  have t1 : (xs.flatMap enc).take (k * z + off) = (xs.flatMap enc).take (k * z) ++ (enc (el xs k)).take off := by
    rw [List.take_add, e0, List.take_append_of_le_length (by omega)]
  have t2 : (xs.flatMap enc).drop (k * z + off + cs.length) = (enc (el xs k)).drop (off + cs.length) ++ (xs.flatMap enc).drop (k * z + z) := by
    rw [Nat.add_assoc, ← List.drop_drop, e0, List.drop_append_of_le_length (by omega)]
  unfold put
  rw [t1, t2]
  simp [List.append_assoc]

/-- a store into an element of a row of the call's own: the cells from 'off' on become 'v' -/
theorem op_store_own {t : TypeId} {ag : Bool} {zv : Value} {sz by' k off : Nat} {v : Value} {x y : Operand} (y' : α) (ht : TI P t ag zv sz by') (hown : Own enc z w base e (.slice (some ⟨g, 0, none⟩) m c) xs) (hz : ∀ x, (enc x).length = z) (hw : Wanted n ops E o true) (hd : o.dst = none)
    (ho : o.op = .store t x y) (hx : ev E x = .pointer (some (((⟨g, 0, none⟩ : Addr).add (k * z)).add off))) (hy : ev E y = v) (hv : v.cells.size = sz) (hone : ∀ u ∈ v.cells.toList, u.oneCell' = true) (hk : k < m) (hfit : off + sz ≤ z)
    (hy' : enc y' = put (enc (el xs k)) off v.cells.toList)
    (h : ∀ w', Own enc z w' base e (.slice (some ⟨g, 0, none⟩) m c) (xs.set k y') → Ch [g] w w' → K E w') : OpW P n D ops o K E w := by
  obtain ⟨cur, hb, h1, h2, h3, h4, h5, h6⟩ := hown.blk
  have hlv : v.cells.toList.length = sz := by simpa using hv
  have hkm : k * z + z ≤ m * z := by rw [← Nat.succ_mul]; exact Nat.mul_le_mul_right z hk
  have hmc : m * z ≤ c * z := Nat.mul_le_mul_right z h3
  rw [add_add', add_at, Nat.zero_add] at hx
  refine op_store_blk ht hb hw hd ho hx hy hv hone (by omega) fun w' hb' hc => h w' (Own.of_blk hb' ?_ ?_ h3 h4 (by simpa using h5) h6 hz) hc
  · rw [← put_flat hz k off v.cells.toList y' (by omega) (by omega) hy', ← h1]
    unfold put
    have a1 : (cur.take (m * z)).take (k * z + off) = cur.take (k * z + off) := by rw [List.take_take, Nat.min_eq_left (by omega)]
    have a2 : (cur.take (m * z)).drop (k * z + off + v.cells.toList.length) = (cur.drop (k * z + off + v.cells.toList.length)).take (m * z - (k * z + off + v.cells.toList.length)) := by rw [List.drop_take]
    rw [a1, a2, List.take_append, List.take_of_length_le (by simp; omega)]
    congr 1
    simp only [List.length_append, List.length_take]
    congr 1
    omega
  · rw [put_len _ _ _ (by omega)]; exact h2

/-! rows cut and copied upon -/
set_option linter.unusedSectionVars false
theorem flat_take (hz : ∀ x, (enc x).length = z) : ∀ (xs : List α) (k : Nat), (xs.flatMap enc).take (k * z) = (xs.take k).flatMap enc := by
  intro xs
  induction xs with
  | nil => intro k; simp
  | cons x r ih =>
    intro k
    cases k with
    | zero => simp
    | succ k =>
      rw [List.flatMap_cons, List.take_succ_cons, List.flatMap_cons, List.take_append, List.take_of_length_le (by rw [hz, Nat.succ_mul]; omega), hz, show (k + 1) * z - z = k * z by rw [Nat.succ_mul]; omega, ih k]
theorem flat_drop (hz : ∀ x, (enc x).length = z) : ∀ (xs : List α) (k : Nat), (xs.flatMap enc).drop (k * z) = (xs.drop k).flatMap enc := by
  intro xs
  induction xs with
  | nil => intro k; simp
  | cons x r ih =>
    intro k
    cases k with
    | zero => simp
    | succ k =>
      rw [List.flatMap_cons, List.drop_succ_cons, List.drop_append, List.drop_of_length_le (by rw [hz, Nat.succ_mul]; omega), hz, show (k + 1) * z - z = k * z by rw [Nat.succ_mul]; omega, ih k, List.nil_append]

set_option linter.unusedSectionVars false
theorem Own.upto {A : Option Addr} (h : Own enc z w base e (.slice A m c) xs) (hz : ∀ x, (enc x).length = z) {k : Nat} (hk : k ≤ m) : Own enc z w base e (.slice A k c) (xs.take k) := by
  rcases h.2 with ⟨h0, h1⟩ | ⟨g, cap, cur, h0, h2⟩
  · simp only [Value.slice.injEq] at h0
    obtain ⟨rfl, rfl, rfl⟩ := h0
    have : xs = [] := List.eq_nil_of_length_eq_zero h1
    subst this
    have hk0 : k = 0 := by omega
    subst hk0
    simpa using h
  · simp only [Value.slice.injEq] at h0
    obtain ⟨rfl, _, _⟩ := h0
    obtain ⟨cur, hb, h1, h2, h3, h4, h5, h6⟩ := h.blk
    refine Own.of_blk hb ?_ h2 (by omega) h4 (by simp; omega) h6 hz
    have := congrArg (List.take (k * z)) h1
    rw [List.take_take, Nat.min_eq_left (Nat.mul_le_mul_right z hk), flat_take hz] at this
    exact this

theorem Own.some' {A : Option Addr} (h : Own enc z w base e (.slice A m c) xs) (hm : 0 < m) : A = some (adr A) := by
  rcases h.2 with ⟨h0, h1⟩ | ⟨g, cap, cur, h0, _⟩
  · simp only [Value.slice.injEq] at h0; omega
  · simp only [Value.slice.injEq] at h0
    rw [h0.1]
    rfl
theorem Own.le {A : Option Addr} (h : Own enc z w base e (.slice A m c) xs) : m ≤ c ∧ c ≤ maxLen ∧ xs.length = m := by
  obtain ⟨A', c', hv, h1, h2⟩ := h.form
  simp only [Value.slice.injEq] at hv
  obtain ⟨rfl, rfl, rfl⟩ := hv
  exact ⟨h1, h2, rfl⟩
theorem Own.from_some {A : Option Addr} (h : Own enc z w base e (.slice A m c) xs) {k : Nat} (hk : 0 < m - k) : (if c = k then A else A.map (·.add (k * z))) = some ((adr A).add (k * z)) := by
  have h1 := h.le
  rw [if_neg (by omega), h.some' (by omega)]
  rfl

theorem run_copy_gen {P : Program} {w : World} {dT sT ty elem : TypeId} {g o dLen dCap : Nat} {a : Addr} {sLen sCap : Nat} {cur : Array Value} {t : TypeId} {cs : List Value} {ag : Bool} {zv : Value} {z by' : Nat}
    (hu : P.underlying dT = some (.slice elem)) (hti : TI P elem ag zv z by')
    (hg : w.heap[g]? = some (.cells cur t (0, 0))) (hn : cs.length = Nat.min sLen dLen * z)
    (hsrc : ∀ j v, cs[j]? = some v → w.cell? (a.add j) = some v) (hfit : o + cs.length ≤ cur.size) (h1 : ∀ v ∈ cs, v.oneCell' = true) :
    (Builtin.copy_ #[dT, sT] ty #[.slice (some ⟨g, o, none⟩) dLen dCap, .slice (some a) sLen sCap]).run P w =
      .ok (goInt ((Nat.min sLen dLen : Nat) : Int)) (w.setRow g (cur.toList.take o ++ cs ++ cur.toList.drop (o + cs.length)).toArray) := by
  have hl := run_loadCells_list (P := P) w a cs hsrc
  have hst := run_storeCells_at P g o t cs 0 cur w hg (by simpa using hfit) h1
  have hso := hti.sizeOf w
  simp [Builtin.copy_, run_underlying hu, Builtin.lenOf, Builtin.firstCells, hso, ← hn, hl, hst]

theorem op_copy {P : Program} {eb : TypeId} {n : Nat} {D : List Deferred} {E : Env} {w : World} {ops : Array Oper} {o : Oper} {K : Env → World → Prop} {d t t' : Nat} {ag : Bool} {zv : Value} {by' : Nat} {s x : Operand} {A DA SA : Option Addr} {m c dl dc sl sc B k : Nat} {ys : List α}
    (ht : P.underlying t = some (.slice e)) (hti : TI P e ag zv z by') (hz : ∀ x, (enc x).length = z) (hz0 : 0 < z) (h1 : ∀ x, ∀ u ∈ enc x, u.oneCell' = true)
    (hw : Wanted n ops E o true) (hd : o.dst = some d) (hn : Nat.blt d n = true) (ho : o.op = .call { callee := .builtin .copy, args := #[s, x], argTypes := #[t, t'] })
    (hs : ev E s = .slice DA dl dc) (hx : ev E x = .slice SA sl sc) (hown : Own enc z w base eb (.slice A m c) xs) (hr : RS enc z w B SA sl ys) (hD : 0 < dl → DA = some ((adr A).add (k * z))) (hk : k + dl ≤ m)
    (h : ∀ w', Own enc z w' base eb (.slice A m c) (xs.take k ++ ys.take (min sl dl) ++ xs.drop (k + min sl dl)) → Ch (obl (.slice A m c)) w w' → K (upd E d (.int .i64 ((min sl dl : Nat) : Int))) w') : OpW P n D ops o K E w := by
  have key : ∃ w', (Builtin.copy_ #[t, t'] o.type #[.slice DA dl dc, .slice SA sl sc]).run P w = .ok (goInt ((min sl dl : Nat) : Int)) w' ∧ Own enc z w' base eb (.slice A m c) (xs.take k ++ ys.take (min sl dl) ++ xs.drop (k + min sl dl)) ∧ Ch (obl (.slice A m c)) w w' := by
    rcases Nat.eq_zero_or_pos (min sl dl) with h0 | h0
    · refine ⟨w, ?_, by rw [h0]; simpa using hown, Ch.refl _ _⟩
      have h0' : Nat.min sl dl = 0 := h0
      have hl0 : ∀ (a : Addr) (u : World), (loadCells a 0).run P u = .ok #[] u := fun a u => by
        simpa using run_loadCells_list (P := P) u a [] (by simp)
      rw [h0]
      cases DA <;> cases SA <;> simp [Builtin.copy_, run_underlying ht, hti.sizeOf, Builtin.lenOf, Builtin.firstCells, h0', hl0, storeCells]
    · have hD' := hD (by omega)
      have hA := hown.some' (by omega)
      rcases hown.2 with ⟨h00, h01⟩ | ⟨g, cap, cur0, h00, _⟩
      · simp only [Value.slice.injEq] at h00; omega
      simp only [Value.slice.injEq] at h00
      obtain ⟨rfl, _, _⟩ := h00
      obtain ⟨cur, hb, b1, b2, b3, b4, b5, b6⟩ := hown.blk
      have hS := hr.some (k := 0) (by omega)
      subst hD'
      rw [hS] at hr ⊢
      have hq : min sl dl ≤ sl := Nat.min_le_left _ _
      have hq2 : min sl dl ≤ dl := Nat.min_le_right _ _
      have hr' : RS enc z w B (some (adr SA)) (min sl dl) (ys.take (min sl dl)) := hr.upto hq
      have hlen : ((ys.take (min sl dl)).flatMap enc).length = min sl dl * z := by rw [flat_len hz, hr'.len]
      have hm1 : (k + min sl dl) * z ≤ m * z := Nat.mul_le_mul_right z (by omega)
      have hm2 : m * z ≤ c * z := Nat.mul_le_mul_right z b3
      rw [Nat.add_mul] at hm1
      have hrun := run_copy_gen (P := P) (w := w) (dT := t) (sT := t') (ty := o.type) (elem := e) (g := g) (o := k * z) (dLen := dl) (dCap := dc) (a := adr SA) (sLen := sl) (sCap := sc) (cur := cur.toArray) (t := eb) (cs := (ys.take (min sl dl)).flatMap enc) ht hti hb hlen
        (rs_cells hz hr') (by simp only [hlen, List.size_toArray]; omega) (fun u hu => by obtain ⟨x, _, hx⟩ := List.mem_flatMap.1 hu; exact h1 x u hx)
      rw [show (⟨g, k * z, none⟩ : Addr) = ((adr (some ⟨g, 0, none⟩)).add (k * z)) by show _ = (⟨g, 0, none⟩ : Addr).add (k * z); rw [add_at, Nat.zero_add]] at hrun
      refine ⟨_, hrun, ?_, ⟨rfl, rfl, rfl, by simp, fun j _ hj => setRow_other w g j _ (by simpa [obl, Value.ownBlock] using hj)⟩⟩
      · refine Own.of_blk (setRow_heap w g cur.toArray _ eb (0, 0) hb) ?_ ?_ b3 b4 ?_ b6 hz
        · have e1 : (cur.take (m * z)).take (k * z) = cur.take (k * z) := by rw [List.take_take, Nat.min_eq_left (by omega)]
          have e2 : (cur.take (m * z)).drop ((k + min sl dl) * z) = (cur.drop ((k + min sl dl) * z)).take (m * z - (k + min sl dl) * z) := by rw [List.drop_take]
          rw [b1, flat_take hz] at e1
          rw [b1, flat_drop hz] at e2
          rw [List.flatMap_append, List.flatMap_append, e1, e2]
          simp only [Nat.add_mul, hlen]
          rw [List.take_append, List.take_of_length_le (by simp only [List.length_append, List.length_take, hlen]; omega)]
          congr 1
          congr 1
          simp only [List.length_append, List.length_take, hlen]
          omega
        · simp only [List.length_append, List.length_take, List.length_drop, hlen]
          omega
        · simp only [List.length_append, List.length_take, List.length_drop, b5, hr.len]
          omega
  obtain ⟨w', hrun, h2, h3⟩ := key
  refine op_val hw hd hn (w' := w') ?_ (h w' h2 h3)
  simp [execOp, ho, resolve, invoke, builtin, hs, hx, hrun, goInt]
end
end
end Go.Proofs.Ytdnncgapbjnfoaa

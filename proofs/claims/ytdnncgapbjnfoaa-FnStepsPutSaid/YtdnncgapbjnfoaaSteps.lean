/-
  Steps of a history: what they are in memory, what is valid, which updates they hold; the iterator over them. No conditions; no program in sight.
-/
import Derived.Test.YtdnncgapbjnfoaaRange
import Derived.Test.YtdnncgapbjnfoaaNode
namespace Go.Proofs.Ytdnncgapbjnfoaa
open Go Go.RowKit
set_option linter.unusedVariables false
set_option linter.unusedSimpArgs false

theorem pv_mkfn {P : Program} {E : Env} {o : Oper} {f : FuncId} {x : Operand} {v : Value} (ho : o.op = .makeFunc (.func f) #[] #[x]) (hx : ev E x = v) : PV P E o (.func (.func f) #[] #[v]) := fun u => by
  subst hx
  simp [execOp, ho, Instr.makeFunc]
theorem resC1 {P : Program} {E : Env} {w : World} {t : Nat} {ty : TypeId} {zv : Value} {z by' : Nat} {a : Addr} {v : Value} (ht : TI P ty false zv z by') (hv : E t = .pointer (some a)) (hc : w.cell? a = some v) : ResIs P #[.cell t ty] E w v := fun fn tmps h ht' => by
  have g : tmps[t]?.getD undef = .pointer (some a) := by rw [← Array.getD_eq_getD_getElem?, ht' t, hv]
  have hag := ht.isAgg w
  simp [results, h, g, asAddr, loadVar, hag, load, Sem.run, hc]
theorem finC1 {P : Program} {E : Env} {w : World} {t : Nat} {ty : TypeId} {zv : Value} {z by' : Nat} {a : Addr} {v : Value} {S : Value → World → Prop} (ht : TI P ty false zv z by') (hv : E t = .pointer (some a)) (hc : w.cell? a = some v) (h : S v w) : FQ P #[.cell t ty] S .ret E w := ⟨v, resC1 ht hv hc, h⟩

structure Stp where
  r : Bool
  k : Int
  v : Int
instance : Inhabited Stp := ⟨⟨false, 0, 0⟩⟩
def encP (s : Stp) : List Value := [.bool s.r, .int .i64 s.k, .int .i64 s.v]
def aggP (s : Stp) : Value := .agg #[.bool s.r, .int .i64 s.k, .int .i64 s.v]
abbrev It := Nat × Stp
/-- what a range over steps hands out -/
def items (hs : List Stp) : List It := (List.range hs.length).map fun i => (i, el hs i)
theorem items_len (hs : List Stp) : (items hs).length = hs.length := by simp [items]
theorem items_take {hs : List Stp} {k : Nat} (h : k < hs.length) : (items hs).take (k + 1) = (items hs).take k ++ [(k, el hs k)] := by
  have hl := items_len hs
  rw [List.take_succ_eq_append_getElem (by omega)]
  simp [items]
theorem items_snd (hs : List Stp) : (items hs).map Prod.snd = hs := by
  apply List.ext_getElem?
  intro i
  by_cases h : i < hs.length
  · simp [items, h, el_eq h]
  · rw [List.getElem?_eq_none (by simp [items]; omega), List.getElem?_eq_none (by omega)]
theorem items_all {hs : List Stp} {p : Stp → Prop} : (∀ x ∈ items hs, p x.2) ↔ ∀ i, i < hs.length → p (el hs i) := by
  constructor
  · intro h i hi
    exact h (i, el hs i) (by simp only [items, List.mem_map, List.mem_range]; exact ⟨i, hi, rfl⟩)
  · intro h x hx
    simp only [items, List.mem_map, List.mem_range] at hx
    obtain ⟨i, hi, rfl⟩ := hx
    exact h i hi
theorem snoc_all {α : Type} {p : α → Prop} {pre : List α} {x : α} (h : ∀ y ∈ pre, p y) (hx : p x) : ∀ y ∈ pre ++ [x], p y := fun y hy => by
  rcases List.mem_append.1 hy with h1 | h1
  · exact h y h1
  · rw [List.mem_singleton.1 h1]; exact hx
/-- what a range over steps hands out, told by its place -/
abbrev Itm (hs : List Stp) := {x : It // ∃ i, i < hs.length ∧ x = (i, el hs i)}
def ofI {hs : List Stp} (pre : List (Itm hs)) : List Stp := pre.map fun x => x.1.2
theorem ofI_snoc {hs : List Stp} (pre : List (Itm hs)) (x : Itm hs) : ofI (pre ++ [x]) = ofI pre ++ [x.1.2] := by simp [ofI]
theorem ofI_snd {hs : List Stp} (pre : List (Itm hs)) : ofI pre = (pre.map Subtype.val).map Prod.snd := by simp [ofI]
theorem ofI_all {hs : List Stp} {pre : List (Itm hs)} (h : pre.map Subtype.val = items hs) : ofI pre = hs := by rw [ofI_snd, h, items_snd]
theorem ofI_pre {hs : List Stp} {pre : List (Itm hs)} (h : pre.map Subtype.val <+: items hs) : ofI pre <+: hs := by
  have := h.map Prod.snd
  rwa [← ofI_snd, items_snd] at this
/-- what a round keeps for the iterator -/
structure Kp (g b : Nat) (W W' : World) : Prop where
  size : W.heap.size ≤ W'.heap.size
  box : W'.heap[g]? = W.heap[g]?
  old : ∀ k, k < b → W'.heap[k]? = W.heap[k]?
section
variable {g b t : Nat} {A B C W W' : World}
theorem kp_t (h : Kp g b A B) (k : Kp g b B C) : Kp g b A C := ⟨Nat.le_trans h.size k.size, k.box.trans h.box, fun i hi => (k.old i hi).trans (h.old i hi)⟩
theorem kp_b {w : World} (hg : g < w.heap.size) (hb : b ≤ w.heap.size) (W : World) (l : Nat) (o o' : Obj) (hl : w.heap.size ≤ l) (_ : W.heap[l]? = some o) (_ : o.isCells = false) (_ : o.isWalk = false) : Kp g b W (W.putObj l o') :=
  ⟨by simp [World.putObj], World.putObj_heap_other (by omega), fun k hk => World.putObj_heap_other (by omega)⟩
theorem kp_ch {S : List Nat} (hc : Ch S W W') (hg : g < W.heap.size) (hb : b ≤ W.heap.size) (hn : ∀ s ∈ S, s ≠ g ∧ b ≤ s) : Kp g b W W' :=
  ⟨hc.size, hc.block g hg (fun h => (hn g h).1 rfl), fun k hk => hc.block k (by omega) (fun h => by have := (hn k h).2; omega)⟩
theorem Kp.blk {cs : List Value} (h : Kp g b W W') (hB : Blk W g t cs) : Blk W' g t cs := h.box.trans hB
theorem Kp.rs {α : Type} [Inhabited α] {enc : α → List Value} {z n : Nat} {D : Option Addr} {xs : List α} (h : Kp g b W W') (hR : RS enc z W b D n xs) : RS enc z W' b D n xs :=
  ⟨hR.len, fun k hk => by
    obtain ⟨h1, h2, h3⟩ := hR.at_ k hk
    exact ⟨h1, h2, fun j v hv => (World.cell?_of_block (h.old _ (by rw [add_block]; exact h2))).trans (h3 j v hv)⟩⟩
end
theorem own_apart {α : Type} {enc : α → List Value} {z base e g t : Nat} {v : Value} {xs : List α} {cs : List Value} {W : World} (h : Own enc z W base e v xs) (hb : Blk W g t cs) (hne : e ≠ t) : ∀ s ∈ obl v, s ≠ g := fun s h1 h3 => by
  rcases h.2 with ⟨rfl, _⟩ | ⟨g', cap, cur, rfl, _, hg, _⟩
  · simp [obl, Value.ownBlock] at h1
  · have : s = g' := by simpa [obl, Value.ownBlock] using h1
    subst this; subst h3
    have h2 : W.heap[s]? = _ := hb
    rw [h2] at hg
    simp only [Option.some.injEq, Obj.cells.injEq] at hg
    exact hne hg.2.1.symm
theorem abide {B : Nat} {J : List It → World → Prop} (h : AbidesFrom B J) {s : List It} {X Y : World} (hJ : J s X) (hc : Ch [] X Y) : J s Y :=
  h s X Y none hJ ⟨hc.os, hc.tape, hc.output, hc.size, fun k hk _ => hc.block k hk (by simp)⟩ (fun r e => by cases e)

theorem stp_ext {s t : Stp} (h : s.r = t.r ∧ s.k = t.k ∧ s.v = t.v) : s = t := by
  cases s; cases t; simp at h; simp [h]
/-! valid steps -/
def StepOK (s : Stp) : Prop := (0 ≤ s.k ∧ s.k ≤ 4) ∧ (bif s.r then -1 else 0) ≤ s.v ∧ s.v ≤ 99
theorem stepok_iff {r : Bool} {k v : Int} : StepOK ⟨r, k, v⟩ ↔ (0 ≤ k ∧ k ≤ 4) ∧ (r = true → -1 ≤ v) ∧ (r = false → 0 ≤ v) ∧ v ≤ 99 := by
  cases r <;> simp [StepOK]
theorem stepok_s {s : Stp} : StepOK s ↔ (0 ≤ s.k ∧ s.k ≤ 4) ∧ (s.r = true → -1 ≤ s.v) ∧ (s.r = false → 0 ≤ s.v) ∧ s.v ≤ 99 := stepok_iff
def puts (hs : List Stp) : Nat := (hs.filter fun s => !s.r).length
structure StepsOK (hs : List Stp) : Prop where
  len : hs.length ≤ 20
  each : ∀ i, i < hs.length → StepOK (el hs i)
  few : puts hs ≤ 12
theorem puts_snoc (hs : List Stp) (s : Stp) : puts (hs ++ [s]) = puts hs + (bif s.r then 0 else 1) := by
  unfold puts
  rw [List.filter_append, List.length_append]
  cases h : s.r <;> simp [h]
theorem puts_put {pre : List It} {x : It} (h : x.2.r = false) : ((puts ((pre ++ [x]).map Prod.snd) : Nat) : Int) = (puts (pre.map Prod.snd) : Int) + 1 := by
  rw [List.map_append, List.map_singleton, puts_snoc, h]; rfl
theorem puts_read {pre : List It} {x : It} (h : x.2.r = true) : ((puts ((pre ++ [x]).map Prod.snd) : Nat) : Int) = (puts (pre.map Prod.snd) : Int) := by
  rw [List.map_append, List.map_singleton, puts_snoc, h]; rfl
theorem puts_le (hs : List Stp) : puts hs ≤ hs.length := List.length_filter_le ..
/-- the updates of steps -/
def upds (hs : List Stp) : List Bt := (hs.filter fun s => !s.r).map fun s => ⟨s.k, s.v⟩
theorem upds_snoc (hs : List Stp) (s : Stp) : upds (hs ++ [s]) = upds hs ++ (bif s.r then [] else [⟨s.k, s.v⟩]) := by
  unfold upds
  rw [List.filter_append, List.map_append]
  cases h : s.r <;> simp [h]
theorem upds_put {pre : List It} {x : It} (h : x.2.r = false) : upds ((pre ++ [x]).map Prod.snd) = upds (pre.map Prod.snd) ++ [⟨x.2.k, x.2.v⟩] := by
  rw [List.map_append, List.map_singleton, upds_snoc, h]; rfl
theorem upds_read {pre : List It} {x : It} (h : x.2.r = true) : upds ((pre ++ [x]).map Prod.snd) = upds (pre.map Prod.snd) := by
  rw [List.map_append, List.map_singleton, upds_snoc, h]; simp
theorem upds_len (hs : List Stp) : (upds hs).length = puts hs := by simp [upds, puts]
noncomputable def logV (hs : List Stp) : List Bt := bif dec (StepsOK hs) then upds hs else []
theorem logV_yes {hs : List Stp} (h : StepsOK hs) : logV hs = upds hs := by unfold logV; rw [dec_yes h]; rfl
theorem logV_no {hs : List Stp} (h : ¬StepsOK hs) : logV hs = [] := by unfold logV; rw [dec_no h]; rfl
theorem logV_le (hs : List Stp) : (logV hs).length ≤ 12 := by
  by_cases h : StepsOK hs
  · rw [logV_yes h, upds_len]; exact h.few
  · rw [logV_no h]; exact Nat.zero_le _
theorem puts_take_put {hs : List Stp} {k : Nat} (hk : k < hs.length) (h : (el hs k).r = false) : ((puts (hs.take (k + 1)) : Nat) : Int) = (puts (hs.take k) : Int) + 1 := by
  rw [take_snoc hs k hk, puts_snoc, h]; rfl
theorem puts_take_read {hs : List Stp} {k : Nat} (hk : k < hs.length) (h : (el hs k).r = true) : ((puts (hs.take (k + 1)) : Nat) : Int) = (puts (hs.take k) : Int) := by
  rw [take_snoc hs k hk, puts_snoc, h]; rfl
theorem upds_take_put {hs : List Stp} {k : Nat} (hk : k < hs.length) (h : (el hs k).r = false) : upds (hs.take (k + 1)) = upds (hs.take k) ++ [⟨(el hs k).k, (el hs k).v⟩] := by
  rw [take_snoc hs k hk, upds_snoc, h]; rfl
theorem upds_take_read {hs : List Stp} {k : Nat} (hk : k < hs.length) (h : (el hs k).r = true) : upds (hs.take (k + 1)) = upds (hs.take k) := by
  rw [take_snoc hs k hk, upds_snoc, h]; simp
theorem slog_done {hs : List Stp} {k : Nat} (hk : hs.length ≤ k) (h : 0 < k → StepsOK hs) : upds (hs.take k) = logV hs := by
  rw [List.take_of_length_le hk]
  by_cases h0 : StepsOK hs
  · exact (logV_yes h0).symm
  · have : k = 0 := by
      rcases Nat.eq_zero_or_pos k with h8 | h8
      · exact h8
      · exact absurd (h h8) h0
    have : hs = [] := List.eq_nil_of_length_eq_zero (by omega)
    subst this
    rw [logV_no h0]; rfl
theorem slog_bad {hs : List Stp} {k : Nat} (hno : ¬StepsOK hs) (h : 0 < k → StepsOK hs) : upds (hs.take k) = logV hs := by
  have : k = 0 := by
    rcases Nat.eq_zero_or_pos k with h8 | h8
    · exact h8
    · exact absurd (h h8) hno
  subst this
  rw [logV_no hno]; rfl
theorem upds_append (a b : List Stp) : upds (a ++ b) = upds a ++ upds b := by simp [upds]
theorem upds_at {hs : List Stp} {k : Nat} (hk : k < hs.length) (h : (el hs k).r = false) :
    puts (hs.take k) < (upds hs).length ∧ el (upds hs) (puts (hs.take k)) = ⟨(el hs k).k, (el hs k).v⟩ := by
  have e : upds hs = upds (hs.take k) ++ (⟨(el hs k).k, (el hs k).v⟩ :: upds (hs.drop (k + 1))) := by
    have h1 := upds_append (hs.take (k + 1)) (hs.drop (k + 1))
    rw [List.take_append_drop, upds_take_put hk h, List.append_assoc] at h1
    exact h1
  have hl := upds_len (hs.take k)
  constructor
  · rw [e, List.length_append, List.length_cons]; omega
  · rw [e, ← hl]; simp [el]
theorem log_at {hs : List Stp} {k : Nat} (h : StepsOK hs) (hk : k < hs.length) (hr : (el hs k).r = false) :
    puts (hs.take k) < (logV hs).length ∧ (el (logV hs) (puts (hs.take k))).s = (el hs k).k ∧ (el (logV hs) (puts (hs.take k))).a = (el hs k).v := by
  rw [logV_yes h]
  obtain ⟨h1, h2⟩ := upds_at hk hr
  rw [h2]
  exact ⟨h1, rfl, rfl⟩
theorem logV_len {hs : List Stp} (h : StepsOK hs) : (logV hs).length = puts hs := by rw [logV_yes h, upds_len]
theorem upds_mem {hs : List Stp} {u : Bt} (h : u ∈ upds hs) : ∃ s ∈ hs, s.r = false ∧ u = ⟨s.k, s.v⟩ := by
  simp only [upds, List.mem_map, List.mem_filter] at h
  obtain ⟨s, ⟨h1, h2⟩, rfl⟩ := h
  exact ⟨s, h1, by simpa using h2, rfl⟩
theorem StepsOK.mem {hs : List Stp} (h : StepsOK hs) {s : Stp} (hm : s ∈ hs) : StepOK s := by
  obtain ⟨j, hj, rfl⟩ := mem_el.1 hm
  exact h.each j hj
theorem logok_steps {hs : List Stp} (h : StepsOK hs) : LogOK (logV hs) := by
  refine ⟨by have := logV_le hs; omega, fun j hj => ?_⟩
  rw [logV_yes h] at hj ⊢
  obtain ⟨s, h1, h2, h3⟩ := upds_mem (mem_el.2 ⟨j, hj, rfl⟩)
  rw [h3]
  obtain ⟨a, b, c, d⟩ := stepok_s.1 (h.mem h1)
  exact ⟨a, c h2, d⟩
end Go.Proofs.Ytdnncgapbjnfoaa

/-
  Marks upon files: a text for each number, and rows that are written in turn. No conditions; no program in sight.
-/
import Derived.Test.YthgnlljpjpklpaaFlaw4
namespace Go.Proofs.Ythgnlljpjpklpaa
open Go Go.RowKit
set_option linter.unusedVariables false
set_option linter.unusedSimpArgs false

def digB (k : Nat) : ByteArray := ByteArray.empty.push (UInt8.ofNat (48 + (k : Int) % 10).toNat)
def dig (k : Nat) (s : ByteArray) : ByteArray := if h : k = 0 then s else dig (k / 10) (digB k ++ s)
termination_by k
decreasing_by omega
theorem dig_step {k : Nat} (h : k ≠ 0) (s : ByteArray) : dig k s = dig (k / 10) (digB k ++ s) := by
  conv => lhs; unfold dig
  rw [dif_neg h]
theorem dig_zero (s : ByteArray) : dig 0 s = s := by unfold dig; rw [dif_pos rfl]
def mtx (m : Int) : ByteArray := if m ≤ 0 then ByteArray.mk #[109, 48] else ByteArray.mk #[109] ++ dig m.toNat ByteArray.empty
theorem digB_size (k : Nat) (s : ByteArray) : (digB k ++ s).size = s.size + 1 := by
  rw [ByteArray.size_append]
  have : (digB k).size = 1 := rfl
  omega
section
variable {P : Program} {E : Env} {w : World} {o : Oper} {t t' : TypeId} {x y : Operand} {n : Nat} {D : List Deferred} {ops : Array Oper} {K : Env → World → Prop}
theorem pv_to8 {s d : TypeId} {a : Int} (hs : P.underlying s = some (.int .i64)) (hd : P.underlying d = some (.int .u8)) (ho : o.op = .convert s d x) (hx : ev E x = .int .i64 a) (h1 : 0 ≤ a) (h2 : a ≤ 255) : PV P E o (.int .u8 a) := fun u => by
  have h3 : IntKind.wrap .u8 a = a := by
    simp [IntKind.wrap, IntKind.signed, IntKind.bits]
    omega
  simp [execOp, ho, hx, convert, run_underlying hs, run_underlying hd, Conv.intToInt, h3]
theorem pv_addS {a b : ByteArray} (ho : o.op = .binOp .add t x y t') (hx : ev E x = .string a) (hy : ev E y = .string b) (h : a.size + b.size ≤ 9223372036854775807) : PV P E o (.string (a ++ b)) := fun u => by
  simp only [execOp, ho, hx, hy]
  simp [guard_strs, binOp_string_add, run_string_add_sum u a b h]
theorem lv_b2s {s d e g : Nat} {a : Int} (hs : P.underlying s = some (.slice e)) (he : P.underlying e = some (.int .u8)) (hd : P.underlying d = some .string) (ho : o.op = .convert s d x) (hx : ev E x = .slice (some ⟨g, 0, none⟩) 1 1) (hb : Blk w g e [.int .u8 a]) :
    LV P E o (.string (ByteArray.empty.push (UInt8.ofNat a.toNat))) w := by
  have hl : (loadCells ⟨g, 0, none⟩ 1).run P w = .ok ([a].map (Value.int .u8)).toArray w :=
    run_loadCells_list (P := P) w ⟨g, 0, none⟩ [.int .u8 a] (fun j v hv => by
      have hj := (List.getElem?_eq_some_iff.1 hv).1
      obtain rfl : j = 0 := by simpa using hj
      exact hb.cell hv)
  have h2 := run_bytesToString w ⟨g, 0, none⟩ 1 1 [a] hl
  show (execOp (ev E) o).run P w = _
  simp [execOp, ho, hx, convert, run_underlying hs, run_underlying hd, run_underlying he, h2]
end

/-! where the marks of a file begin -/
def offs (hs : List Fl) : Nat → Nat
  | 0 => 0
  | i + 1 => offs hs i + 1 + (el hs i).n
def NOK (hs : List Fl) : Prop := ∀ k, k < hs.length → (el hs k).n ≤ 1099511627776
theorem SzOK.nok {hs : List Fl} (h : SzOK hs) : NOK hs := fun k hk => (h k hk).2
theorem offs_bd {hs : List Fl} (h : NOK hs) : ∀ i, i ≤ hs.length → offs hs i ≤ i * 1099511627777 := by
  intro i
  induction i with
  | zero => intro _; exact Nat.le_refl _
  | succ i ih =>
    intro hi
    have h1 := ih (by omega)
    have h2 := h i (by omega)
    simp only [offs]
    omega
theorem offs_same {hs ys : List Fl} (h : ∀ k, (el ys k).n = (el hs k).n) : ∀ i, offs ys i = offs hs i := by
  intro i
  induction i with
  | zero => rfl
  | succ i ih => simp only [offs, ih, h]
def Marked1 (m : Int) (f : Fl) : Prop := f.nm = mtx m ∧ f.ps.length = f.n ∧ ∀ j, j < f.n → el f.ps j = m + 1 + j
def Marked (m : Int) (hs : List Fl) : Prop := ∀ i, i < hs.length → Marked1 (m + offs hs i) (el hs i)
/-- the same rows -/
def Shape (hs ys : List Fl) : Prop := ys.length = hs.length ∧ ∀ k, (el ys k).A = (el hs k).A ∧ (el ys k).n = (el hs k).n ∧ (el ys k).c = (el hs k).c
theorem Shape.nok {hs ys : List Fl} (h : ys.length = hs.length ∧ ∀ k, (el ys k).A = (el hs k).A ∧ (el ys k).n = (el hs k).n ∧ (el ys k).c = (el hs k).c) (k : NOK hs) : NOK ys := fun i hi => by
  rw [(h.2 i).2.1]; exact k i (by omega)
theorem Shape.refl (hs : List Fl) : Shape hs hs := ⟨rfl, fun _ => ⟨rfl, rfl, rfl⟩⟩
theorem Shape.set {hs ys : List Fl} (h : Shape hs ys) {i : Nat} (hi : i < ys.length) {f : Fl} (h1 : f.A = (el ys i).A) (h2 : f.n = (el ys i).n) (h3 : f.c = (el ys i).c) : Shape hs (ys.set i f) := by
  refine ⟨by rw [List.length_set]; exact h.1, fun k => ?_⟩
  rw [el_setF _ _ _ _ hi]
  split
  · subst_vars; rw [h1, h2, h3]; exact h.2 _
  · exact h.2 k
section
variable {base B e b1 : Nat} {X : List Nat} {w w' : World} {ys : List Fl} {v : Value}
theorem Own.ghost {T : Nat} (h : Own encF 2 w base T v ys) {i : Nat} (hi : i < ys.length) {f : Fl} (hf : encF f = encF (el ys i)) : Own encF 2 w base T v (ys.set i f) := by
  have e1 : (ys.set i f).flatMap encF = ys.flatMap encF := by
    rw [flat_set (z := 2) (fun _ => rfl) ys i f hi, hf, ← flat_set (z := 2) (fun _ => rfl) ys i (el ys i) hi, el_eq hi, List.set_getElem_self]
  unfold Own
  rw [List.length_set, e1]
  exact h
theorem DOw.put {i : Nat} {ps' : List Int} (h : DOw base B X e w ys) (hi : i < ys.length) (nm : ByteArray) (hc : Ch (obl (.slice (el ys i).A (el ys i).n (el ys i).c)) w w') (ho : Own encI 1 w' base e (.slice (el ys i).A (el ys i).n (el ys i).c) ps') :
    DOw base B X e w' (ys.set i ⟨nm, (el ys i).A, (el ys i).n, (el ys i).c, ps'⟩) := by
  refine ⟨fun k hk => ?_, fun k hk => ?_, fun j k hj hk hjk => ?_⟩
  · rw [List.length_set] at hk; rw [el_setF _ _ _ _ hi]; split
    · exact ho
    · exact (h.own k hk).ch hc (fun s h1 h2 => h.dj k i hk hi (by assumption) s h1 h2)
  · rw [List.length_set] at hk; rw [el_setF _ _ _ _ hi]; split
    · exact h.off i hi
    · exact h.off k hk
  · rw [List.length_set] at hj hk; rw [el_setF _ _ _ _ hi, el_setF _ _ _ _ hi]; split <;> split
    · omega
    · exact h.dj i k hi hk (by omega)
    · exact h.dj j i hj hi (by assumption)
    · exact h.dj j k hj hk hjk
theorem DOw.name {i : Nat} (h : DOw base B X e w ys) (hi : i < ys.length) (nm : ByteArray) : DOw base B X e w (ys.set i ⟨nm, (el ys i).A, (el ys i).n, (el ys i).c, (el ys i).ps⟩) := by
  refine ⟨fun k hk => ?_, fun k hk => ?_, fun j k hj hk hjk => ?_⟩
  · rw [List.length_set] at hk; rw [el_setF _ _ _ _ hi]; split
    · exact h.own i hi
    · exact h.own k hk
  · rw [List.length_set] at hk; rw [el_setF _ _ _ _ hi]; split
    · exact h.off i hi
    · exact h.off k hk
  · rw [List.length_set] at hj hk; rw [el_setF _ _ _ _ hi, el_setF _ _ _ _ hi]; split <;> split
    · omega
    · exact h.dj i k hi hk (by omega)
    · exact h.dj j i hj hi (by assumption)
    · exact h.dj j k hj hk hjk
theorem range_mem {s lo hi : Nat} (h1 : lo ≤ s) (h2 : s < hi) : s ∈ List.range' lo (hi - lo) := List.mem_range'_1.2 ⟨h1, by omega⟩
theorem range_lim {s lo hi : Nat} (h : s ∈ List.range' lo (hi - lo)) : lo ≤ s ∧ s < hi := by
  have := List.mem_range'_1.1 h
  omega
end
end Go.Proofs.Ythgnlljpjpklpaa

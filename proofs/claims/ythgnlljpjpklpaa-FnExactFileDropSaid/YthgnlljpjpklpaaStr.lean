/-
  Operations upon texts and pointers. No conditions; proved from the library's own laws.
-/
import Derived.Test.YthgnlljpjpklpaaFiles
namespace Go.Proofs.Ythgnlljpjpklpaa
open Go Go.RowKit
set_option linter.unusedVariables false

section
variable {P : Program} {E : Env} {o : Oper} {t t' : TypeId} {x y : Operand} {a b : ByteArray}
theorem list_eq_iff : (a.toList == b.toList) = decide (a = b) := by
  have e : a.toList = b.toList ↔ a = b := by
    rw [ByteArray.toList_eq, ByteArray.toList_eq]
    constructor
    · intro h
      cases a; cases b
      have := Array.toList_inj.1 h
      simp only at this
      rw [this]
    · intro h; rw [h]
  by_cases h : a = b
  · simp [h]
  · rw [decide_eq_false h]
    exact beq_false_of_ne fun h9 => h (e.1 h9)
theorem pv_eqS (ho : o.op = .binOp .eql t x y t') (hx : ev E x = .string a) (hy : ev E y = .string b) : PV P E o (.bool (decide (a = b))) := fun u => by
  simp only [execOp, ho, hx, hy]
  simp [guard_strs, binOp_string_eql, list_eq_iff]
theorem pv_neS (ho : o.op = .binOp .neq t x y t') (hx : ev E x = .string a) (hy : ev E y = .string b) : PV P E o (.bool (!decide (a = b))) := fun u => by
  simp only [execOp, ho, hx, hy]
  simp [guard_strs, binOp_string_neq, list_eq_iff]
theorem pv_ltS (ho : o.op = .binOp .lss t x y t') (hx : ev E x = .string a) (hy : ev E y = .string b) : PV P E o (.bool (slt a b)) := fun u => by
  simp only [execOp, ho, hx, hy]
  simp [guard_strs, binOp_string_lss, slt]
theorem bs_geq (t : TypeId) (a b : ByteArray) : binOp .geq t (.string a) (.string b) = pure (.bool !(Op.bytesLess a.toList b.toList)) := by simp [binOp, Op.stringOp]
theorem bs_gtr (t : TypeId) (a b : ByteArray) : binOp .gtr t (.string a) (.string b) = pure (.bool !(Op.bytesLess a.toList b.toList || a.toList == b.toList)) := by simp [binOp, Op.stringOp]
theorem pv_geS (ho : o.op = .binOp .geq t x y t') (hx : ev E x = .string a) (hy : ev E y = .string b) : PV P E o (.bool (!slt a b)) := fun u => by
  simp only [execOp, ho, hx, hy]
  simp [guard_strs, bs_geq, slt]
theorem pv_gtS (ho : o.op = .binOp .gtr t x y t') (hx : ev E x = .string a) (hy : ev E y = .string b) : PV P E o (.bool (decide (slt a b = false ∧ a ≠ b))) := fun u => by
  simp only [execOp, ho, hx, hy]
  have e : (!(Op.bytesLess a.toList b.toList || a.toList == b.toList)) = decide (slt a b = false ∧ a ≠ b) := by
    rw [list_eq_iff]
    show (!(slt a b || decide (a = b))) = _
    cases slt a b <;> by_cases h : a = b <;> simp [h]
  simp only [Sem.run_bind, guard_strs, bs_gtr, Result.andThen_ok, Sem.run_pure, e]
theorem pv_indexN {s : ByteArray} {i : Operand} {k : Nat} (ht : P.underlying t = some .string) (ho : o.op = .index t x i) (hx : ev E x = .string s) (hi : ev E i = .int .i64 (k : Int)) (h1 : k < s.size) : PV P E o (.int .u8 (by8 s k : Nat)) :=
  pv_index ht ho hx hi (by omega) (by omega)
theorem pv_nePv {e : TypeId} {p : Option Addr} (ht : P.underlying t = some (.pointer e)) (ho : o.op = .binOp .neq t x y t') (hx : ev E x = .pointer p) (hy : ev E y = .pointer none) : PV P E o (.bool (!p.isNone)) := fun u => by
  have hp : P.underlying t = some (.pointer (P.pointee t)) := by simp [Program.pointee, ht]
  simp only [execOp, ho, hx, hy]
  simp [guard_ptrs, run_neq_pointer_nil u t p hp]
theorem pv_eqPn {e : TypeId} (ht : P.underlying t = some (.pointer e)) (ho : o.op = .binOp .eql t x y t') (hx : ev E x = .pointer none) (hy : ev E y = .pointer none) : PV P E o (.bool true) := fun u => by
  have hp : P.underlying t = some (.pointer (P.pointee t)) := by simp [Program.pointee, ht]
  simp only [execOp, ho, hx, hy]
  simp [guard_ptrs, run_eql_pointer_nil u t none hp]
theorem pv_eqPs {e : TypeId} {A : Addr} (ht : P.underlying t = some (.pointer e)) (ho : o.op = .binOp .eql t x y t') (hx : ev E x = .pointer (some A)) (hy : ev E y = .pointer none) : PV P E o (.bool false) := fun u => by
  have hp : P.underlying t = some (.pointer (P.pointee t)) := by simp [Program.pointee, ht]
  simp only [execOp, ho, hx, hy]
  simp [guard_ptrs, run_eql_pointer_nil u t (some A) hp]
theorem pv_nePn {e : TypeId} (ht : P.underlying t = some (.pointer e)) (ho : o.op = .binOp .neq t x y t') (hx : ev E x = .pointer none) (hy : ev E y = .pointer none) : PV P E o (.bool false) := fun u => by
  have hp : P.underlying t = some (.pointer (P.pointee t)) := by simp [Program.pointee, ht]
  simp only [execOp, ho, hx, hy]
  simp [guard_ptrs, run_neq_pointer_nil u t none hp]
theorem pv_nePs {e : TypeId} {A : Addr} (ht : P.underlying t = some (.pointer e)) (ho : o.op = .binOp .neq t x y t') (hx : ev E x = .pointer (some A)) (hy : ev E y = .pointer none) : PV P E o (.bool true) := fun u => by
  have hp : P.underlying t = some (.pointer (P.pointee t)) := by simp [Program.pointee, ht]
  simp only [execOp, ho, hx, hy]
  simp [guard_ptrs, run_neq_pointer_nil u t (some A) hp]
end
end Go.Proofs.Ythgnlljpjpklpaa

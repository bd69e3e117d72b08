/-
  One law for each kind of operation, over frames that are functions. No conditions; proved from the library's own laws.
-/
import Derived.Test.YtdnncgapbjnfoaaMem
namespace Go.Proofs.Ytdnncgapbjnfoaa
open Go Go.RowKit
set_option linter.unusedVariables false

section
variable {P : Program} {E : Env} {o : Oper}

/-- The operation's value, in whatever world; the world stays. -/
def PV (P : Program) (E : Env) (o : Oper) (v : Value) : Prop := ∀ u : World, (execOp (ev E) o).run P u = .ok (.value v) u
/-- .. in this world. -/
def LV (P : Program) (E : Env) (o : Oper) (v : Value) (u : World) : Prop := (execOp (ev E) o).run P u = .ok (.value v) u

theorem pv_move {x : Operand} {v : Value} (ho : o.op = .move x) (hx : ev E x = v) : PV P E o v := fun u => by subst hx; simp [execOp, ho]
theorem pv_assign {x : Operand} {v : Value} (ho : o.op = .assign x) (hx : ev E x = v) : PV P E o v := fun u => by subst hx; simp [execOp, ho]
theorem pv_pickT {c a b : Operand} {v : Value} (ho : o.op = .pick c a b) (hc : ev E c = .bool true) (ha : ev E a = v) : PV P E o v := fun u => by
  subst ha; simp [execOp, ho, hc, asBool]
theorem pv_pickF {c a b : Operand} {v : Value} (ho : o.op = .pick c a b) (hc : ev E c = .bool false) (hb : ev E b = v) : PV P E o v := fun u => by
  subst hb; simp [execOp, ho, hc, asBool]
theorem pv_nil {x : Operand} {a : Addr} (ho : o.op = .nilCheck x) (hx : ev E x = .pointer (some a)) : PV P E o (.pointer (some a)) := fun u => by
  simp [execOp, ho, hx]

/-! integers -/

theorem wrap_ok {x : Int} (h1 : -9223372036854775808 ≤ x) (h2 : x ≤ 9223372036854775807) : IntKind.i64.wrap x = x := by
  rw [IntKind.wrap_i64]; omega

theorem guard_ints (op : BinOp) (t : TypeId) (x y : Operand) (k : IntKind) (k' : IntKind) (a b : Int) (u : World) : (eqGuard op t x y (.int k a) (.int k' b)).run P u = .ok () u := by
  unfold eqGuard
  split <;> rfl
theorem guard_bools (op : BinOp) (t : TypeId) (x y : Operand) (a b : Bool) (u : World) : (eqGuard op t x y (.bool a) (.bool b)).run P u = .ok () u := by
  unfold eqGuard
  split <;> rfl
theorem guard_strs (op : BinOp) (t : TypeId) (x y : Operand) (a b : ByteArray) (u : World) : (eqGuard op t x y (.string a) (.string b)).run P u = .ok () u := by
  unfold eqGuard
  split <;> rfl
theorem guard_ptrs (op : BinOp) (t : TypeId) (x y : Operand) (a b : Option Addr) (u : World) : (eqGuard op t x y (.pointer a) (.pointer b)).run P u = .ok () u := by
  unfold eqGuard
  split <;> rfl

theorem pv_bin {op : BinOp} {t t' : TypeId} {x y : Operand} {k k' : IntKind} {a b : Int} {v : Value} (ho : o.op = .binOp op t x y t') (hx : ev E x = .int k a) (hy : ev E y = .int k' b)
    (h : ∀ u, (binOp op t (.int k a) (.int k' b)).run P u = .ok v u) : PV P E o v := fun u => by
  simp [execOp, ho, hx, hy, guard_ints, h]

theorem pv_add {t t' : TypeId} {x y : Operand} {a b : Int} (ho : o.op = .binOp .add t x y t') (hx : ev E x = .int .i64 a) (hy : ev E y = .int .i64 b)
    (h1 : -9223372036854775808 ≤ a + b) (h2 : a + b ≤ 9223372036854775807) : PV P E o (.int .i64 (a + b)) :=
  pv_bin ho hx hy fun u => by simp [binOp, Op.intArith, wrap_ok h1 h2]
theorem pv_sub {t t' : TypeId} {x y : Operand} {a b : Int} (ho : o.op = .binOp .sub t x y t') (hx : ev E x = .int .i64 a) (hy : ev E y = .int .i64 b)
    (h1 : -9223372036854775808 ≤ a - b) (h2 : a - b ≤ 9223372036854775807) : PV P E o (.int .i64 (a - b)) :=
  pv_bin ho hx hy fun u => by simp [binOp, Op.intArith, wrap_ok h1 h2]
theorem pv_mul {t t' : TypeId} {x y : Operand} {a b : Int} (ho : o.op = .binOp .mul t x y t') (hx : ev E x = .int .i64 a) (hy : ev E y = .int .i64 b)
    (h1 : -9223372036854775808 ≤ a * b) (h2 : a * b ≤ 9223372036854775807) : PV P E o (.int .i64 (a * b)) :=
  pv_bin ho hx hy fun u => by simp [binOp, Op.intArith, wrap_ok h1 h2]
theorem pv_quo {t t' : TypeId} {x y : Operand} {a b : Int} (ho : o.op = .binOp .quo t x y t') (hx : ev E x = .int .i64 a) (hy : ev E y = .int .i64 b)
    (h1 : 0 ≤ a) (h2 : 0 < b) (h3 : a ≤ 9223372036854775807) : PV P E o (.int .i64 (a / b)) :=
  pv_bin ho hx hy fun u => by
    have e : a.tdiv b = a / b := Int.tdiv_eq_ediv_of_nonneg h1
    have h4 : 0 ≤ a / b := Int.ediv_nonneg h1 (by omega)
    have h5 : a / b ≤ a := Int.ediv_le_self b h1
    simp [binOp, Op.intDiv, show b ≠ 0 by omega, e, wrap_ok (x := a / b) (by omega) (by omega)]
theorem pv_rem {t t' : TypeId} {x y : Operand} {a b : Int} (ho : o.op = .binOp .rem t x y t') (hx : ev E x = .int .i64 a) (hy : ev E y = .int .i64 b)
    (h1 : 0 ≤ a) (h2 : 0 < b) : PV P E o (.int .i64 (a % b)) :=
  pv_bin ho hx hy fun u => by
    have e : a.tmod b = a % b := Int.tmod_eq_emod_of_nonneg h1
    simp [binOp, Op.intDiv, show b ≠ 0 by omega, e]
/-- Go's '%' at any sign -/
theorem pv_remt {t t' : TypeId} {x y : Operand} {a b : Int} (ho : o.op = .binOp .rem t x y t') (hx : ev E x = .int .i64 a) (hy : ev E y = .int .i64 b)
    (h2 : b ≠ 0) : PV P E o (.int .i64 (a.tmod b)) :=
  pv_bin ho hx hy fun u => by simp [binOp, Op.intDiv, h2]
theorem pv_xor {t t' : TypeId} {x y : Operand} {a b : Int} (ho : o.op = .binOp .xor t x y t') (hx : ev E x = .int .i64 a) (hy : ev E y = .int .i64 b) :
    PV P E o (.int .i64 (bits .xor .i64 a b)) := pv_bin ho hx hy fun u => by simp [binOp, Op.intBits, bits]

section
variable {k : IntKind} {t t' : TypeId} {x y : Operand} {a b : Int} (hx : ev E x = .int k a) (hy : ev E y = .int k b)
include hx hy
theorem pv_lss (ho : o.op = .binOp .lss t x y t') : PV P E o (.bool (decide (a < b))) := pv_bin ho hx hy fun u => by simp [binOp, Op.intCmp]
theorem pv_leq (ho : o.op = .binOp .leq t x y t') : PV P E o (.bool (decide (a ≤ b))) := pv_bin ho hx hy fun u => by simp [binOp, Op.intCmp]
theorem pv_gtr (ho : o.op = .binOp .gtr t x y t') : PV P E o (.bool (decide (b < a))) := pv_bin ho hx hy fun u => by simp [binOp, Op.intCmp]
theorem pv_geq (ho : o.op = .binOp .geq t x y t') : PV P E o (.bool (decide (b ≤ a))) := pv_bin ho hx hy fun u => by simp [binOp, Op.intCmp]
theorem pv_eql (ho : o.op = .binOp .eql t x y t') : PV P E o (.bool (decide (a = b))) := pv_bin ho hx hy fun u => by
  simp only [binOp, Op.intCmp]
  simp [show (a == b) = decide (a = b) from rfl]
theorem pv_neq (ho : o.op = .binOp .neq t x y t') : PV P E o (.bool (decide (a ≠ b))) := pv_bin ho hx hy fun u => by
  simp only [binOp, Op.intCmp]
  simp [show (a != b) = decide (a ≠ b) by simp [bne, show (a == b) = decide (a = b) from rfl]]
end

theorem pv_not {t : TypeId} {x : Operand} {b : Bool} (ho : o.op = .unOp .not t x) (hx : ev E x = .bool b) : PV P E o (.bool (!b)) := fun u => by
  simp [execOp, ho, hx, Op.unary]

/-- '==' between bools -/
theorem pv_eqlB {t t' : TypeId} {x y : Operand} {a b : Bool} (ht : P.underlying t = some .bool) (ho : o.op = .binOp .eql t x y t') (hx : ev E x = .bool a) (hy : ev E y = .bool b) : PV P E o (.bool (a == b)) := fun u => by
  simp only [execOp, ho, hx, hy]
  simp [guard_bools, run_eql_bool u t a b ht]
theorem pv_neqB {t t' : TypeId} {x y : Operand} {a b : Bool} (ht : P.underlying t = some .bool) (ho : o.op = .binOp .neq t x y t') (hx : ev E x = .bool a) (hy : ev E y = .bool b) : PV P E o (.bool (!(a == b))) := fun u => by
  simp only [execOp, ho, hx, hy]
  simp [guard_bools, run_neq_bool u t a b ht]

/-- a byte as an int -/
theorem pv_conv8 {s d : TypeId} {x : Operand} {a : Int} (hs : P.underlying s = some (.int .u8)) (hd : P.underlying d = some (.int .i64)) (ho : o.op = .convert s d x) (hx : ev E x = .int .u8 a)
    (h1 : 0 ≤ a) (h2 : a ≤ 255) : PV P E o (.int .i64 a) := fun u => by
  have h3 := wrap_ok (x := a) (by omega) (by omega)
  simp [execOp, ho, hx, convert, run_underlying hs, run_underlying hd, Conv.intToInt, h3]
theorem pv_conv64 {s d : TypeId} {x : Operand} {a : Int} (hs : P.underlying s = some (.int .i64)) (hd : P.underlying d = some (.int .i64)) (ho : o.op = .convert s d x) (hx : ev E x = .int .i64 a)
    (h1 : -9223372036854775808 ≤ a) (h2 : a ≤ 9223372036854775807) : PV P E o (.int .i64 a) := fun u => by
  have h3 := wrap_ok h1 h2
  simp [execOp, ho, hx, convert, run_underlying hs, run_underlying hd, Conv.intToInt, h3]

/-! slices -/

theorem pv_len {x : Operand} {t e : TypeId} {A : Option Addr} {n c : Nat} (ht : P.underlying t = some (.slice e))
    (ho : o.op = .call { callee := .builtin .len, args := #[x], argTypes := #[t] }) (hx : ev E x = .slice A n c) : PV P E o (.int .i64 n) := fun u => by
  simp [execOp, ho, resolve, invoke, builtin, Builtin.len_, hx, run_underlying ht, goInt]
theorem pv_lenS {x : Operand} {t : TypeId} {s : ByteArray} (ht : P.underlying t = some .string)
    (ho : o.op = .call { callee := .builtin .len, args := #[x], argTypes := #[t] }) (hx : ev E x = .string s) : PV P E o (.int .i64 s.size) := fun u => by
  simp [execOp, ho, resolve, invoke, builtin, Builtin.len_, hx, run_underlying ht, goInt]
theorem pv_min {x y : Operand} {t : Array TypeId} {a b : Int}
    (ho : o.op = .call { callee := .builtin .min, args := #[x, y], argTypes := t }) (hx : ev E x = .int .i64 a) (hy : ev E y = .int .i64 b) : PV P E o (.int .i64 (min a b)) := fun u => by
  have e : (if b < a then b else a) = min a b := by rw [Int.min_def]; split <;> split <;> omega
  simp [execOp, ho, resolve, invoke, builtin, Builtin.min_, Builtin.min2, hx, hy, e]
theorem pv_max {x y : Operand} {t : Array TypeId} {a b : Int}
    (ho : o.op = .call { callee := .builtin .max, args := #[x, y], argTypes := t }) (hx : ev E x = .int .i64 a) (hy : ev E y = .int .i64 b) : PV P E o (.int .i64 (max a b)) := fun u => by
  have e : (if a < b then b else a) = max a b := by rw [Int.max_def]; split <;> split <;> omega
  simp [execOp, ho, resolve, invoke, builtin, Builtin.max_, Builtin.max2, hx, hy, e]

theorem pv_idx {t e : TypeId} {ag : Bool} {zv : Value} {z by' : Nat} {x i : Operand} {A : Option Addr} {n c : Nat} {k : Int} (ht : P.underlying t = some (.slice e)) (hz : TI P e ag zv z by')
    (ho : o.op = .indexAddr t x i) (hx : ev E x = .slice A n c) (hi : ev E i = .int .i64 k) (hA : A = some (adr A)) (h0 : 0 ≤ k) (h1 : k < n) :
    PV P E o (.pointer (some ((adr A).add (k.toNat * z)))) := fun u => by
  rw [hA] at hx
  simp [execOp, ho, hx, hi, Instr.indexAt, asIntOf, run_underlying ht, hz.sizeOf, h0, h1]
/-- into an array behind a pointer -/
theorem pv_idxA {t e : TypeId} {ag : Bool} {zv : Value} {z by' m : Nat} {x i : Operand} {a : Addr} {kk : IntKind} {k : Int} (ht : P.underlying t = some (.array m e)) (hz : TI P e ag zv z by')
    (ho : o.op = .indexAddr t x i) (hx : ev E x = .pointer (some a)) (hi : ev E i = .int kk k) (h0 : 0 ≤ k) (h1 : k < m) :
    PV P E o (.pointer (some (a.add (k.toNat * z)))) := fun u => by
  simp [execOp, ho, hx, hi, Instr.indexAt, Instr.sureAddr, asIntOf, run_underlying ht, hz.sizeOf, h0, h1]

theorem pv_fld {s f off : Nat} {x : Operand} {a : Addr} (hf : FldOK P s f off)
    (ho : o.op = .fieldAddr s x f) (hx : ev E x = .pointer (some a)) : PV P E o (.pointer (some (a.add off))) := fun u => by
  obtain ⟨fs, fd, sz, hs, hf, rfl, hsz⟩ := hf
  obtain ⟨i, hi, hi2⟩ := Option.map_eq_some_iff.1 hsz
  simp [execOp, ho, hx, Instr.fieldAt, Instr.sureAddr, run_underlying hs, hf, fieldPlace, Go.sizeOf, typeInfo, hi, hi2]

theorem pv_ext {x : Operand} {i : Nat} {vs : Array Value} {v : Value} (ho : o.op = .extract x i) (hx : ev E x = .tuple vs) (hv : vs[i]? = some v) : PV P E o v := fun u => by
  simp [execOp, ho, hx, Instr.extract, hv]

theorem pv_index {t : TypeId} {x i : Operand} {s : ByteArray} {k : Int} (ht : P.underlying t = some .string) (ho : o.op = .index t x i) (hx : ev E x = .string s) (hi : ev E i = .int .i64 k)
    (h0 : 0 ≤ k) (h1 : k < s.size) : PV P E o (.int .u8 (s.data.toList.getD k.toNat 0).toNat) := fun u => by
  have hlt : k.toNat < s.size := by omega
  have e : s[k.toNat]? = some (s.data.toList.getD k.toNat 0) := by
    have h2 : k.toNat < s.data.toList.length := by rw [Array.length_toList]; exact hlt
    have h3 : s[k.toNat]? = some s[k.toNat] := by simp [hlt]
    rw [h3, List.getD_eq_getElem?_getD, List.getElem?_eq_getElem h2]
    rfl
  simp [execOp, ho, hx, hi, Instr.index, asIntOf, run_underlying ht, h0, e]

section
variable {t e : TypeId} {ag : Bool} {zv : Value} {z by' : Nat} {x i j : Operand} {A : Option Addr} {n c : Nat} {k l : Int} (ht : P.underlying t = some (.slice e)) (hz : TI P e ag zv z by') (hx : ev E x = .slice A n c)
include ht hz hx
/-- 's[:k]' -/
theorem pv_upto (ho : o.op = .slice t x none (some i) none) (hi : ev E i = .int .i64 k) (h0 : 0 ≤ k) (h1 : k ≤ c) : PV P E o (.slice A k.toNat c) := fun u => by
  have hA : (if c = 0 then A else A.map (·.add 0)) = A := by
    have : (fun a : Addr => a.add 0) = id := by funext a; rfl
    simp [this]
  simp [execOp, ho, hx, hi, Instr.sliceAt, Instr.slice, Instr.sliceBounds, Instr.sliceBound, asIntOf, run_underlying ht, hz.sizeOf, h0, h1, hA]
/-- 's[k:]' -/
theorem pv_from (ho : o.op = .slice t x (some i) none none) (hi : ev E i = .int .i64 k) (h0 : 0 ≤ k) (h1 : k ≤ n) : PV P E o (.slice (if c = k.toNat then A else A.map (·.add (k.toNat * z))) (n - k.toNat) (c - k.toNat)) := fun u => by
  simp [execOp, ho, hx, hi, Instr.sliceAt, Instr.slice, Instr.sliceBounds, Instr.sliceBound, asIntOf, run_underlying ht, hz.sizeOf, h0, h1]
/-- 's[k:l]' -/
theorem pv_mid (ho : o.op = .slice t x (some i) (some j) none) (hi : ev E i = .int .i64 k) (hj : ev E j = .int .i64 l) (h0 : 0 ≤ k) (h1 : k ≤ l) (h2 : l ≤ c) :
    PV P E o (.slice (if c = k.toNat then A else A.map (·.add (k.toNat * z))) (l.toNat - k.toNat) (c - k.toNat)) := fun u => by
  have h3 : 0 ≤ l := by omega
  have h4 : k ≤ max l 0 := by omega
  simp [execOp, ho, hx, hi, hj, Instr.sliceAt, Instr.slice, Instr.sliceBounds, Instr.sliceBound, asIntOf, run_underlying ht, hz.sizeOf, h0, h2, h3, h4]
end

/-! memory that is read -/

theorem lv_load {t : TypeId} {zv : Value} {z by' : Nat} {x : Operand} {a : Addr} {v : Value} {u : World} (ht : TI P t false zv z by') (ho : o.op = .load t x) (hx : ev E x = .pointer (some a))
    (hc : u.cell? a = some v) : LV P E o v u := by
  have hag := ht.isAgg u
  simp only [LV, execOp, ho, hx, Instr.loadAt, Instr.sureAddr]
  simp [loadVar, hag, load, Sem.run, hc]

theorem lv_loadN {t : TypeId} {zv : Value} {z by' : Nat} {x : Operand} {a : Addr} {cs : List Value} {u : World} (ht : TI P t true zv z by') (ho : o.op = .load t x) (hx : ev E x = .pointer (some a))
    (hz : cs.length = z) (hc : ∀ j v, cs[j]? = some v → u.cell? (a.add j) = some v) : LV P E o (.agg cs.toArray) u := by
  have hag := ht.isAgg u
  subst hz
  have h1 := run_loadCells_list (P := P) u a cs hc
  simp only [LV, execOp, ho, hx, Instr.loadAt, Instr.sureAddr]
  simp [loadVar, hag, ht.sizeOf, h1]

/-- a call of a named function -/
theorem rc_call {f : FuncId} {xs : Array Operand} {ts : Array TypeId} {vs : List Value} {u : World} (hf : Callable P f) (ho : o.op = .call { callee := .value (.func f), args := xs, argTypes := ts }) (hx : xs.toList.map (ev E) = vs) :
    (execOp (ev E) o).run P u = .ok (.enter f vs.toArray) u := by
  obtain ⟨fn, h1, h2, h3⟩ := hf
  subst hx
  have h2' : ¬ fn.name = "runtime.NumGoroutine" := by simpa using h2
  have h3' : ¬ fn.body = none := by intro h; simp [h] at h3
  have e : xs.map (ev E) = (xs.toList.map (ev E)).toArray := by rw [← Array.toList_map, Array.toArray_toList]
  rw [← e]
  simp only [execOp, ho, resolve]
  show Sem.run P (invoke (Target.fn (.func f) #[]) (#[] ++ xs.map (ev E))) u = _
  simp [invoke, callFunc, program, Sem.run, h1, h2', h3']
end
end Go.Proofs.Ytdnncgapbjnfoaa

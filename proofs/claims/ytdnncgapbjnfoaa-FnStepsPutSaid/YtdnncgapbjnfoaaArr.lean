/-
  Arrays behind pointers, read as rows; functions called as values. No conditions.
-/
import Derived.Test.YtdnncgapbjnfoaaBeats
namespace Go.Proofs.Ytdnncgapbjnfoaa
open Go Go.RowKit
set_option linter.unusedVariables false

section
variable {P : Program} {E : Env} {o : Oper}
/-- 's[:]' of an array behind a pointer -/
theorem pv_sliceArr {t e m : Nat} {ag : Bool} {zv : Value} {z by' : Nat} {x : Operand} {a : Addr} (ht : P.underlying t = some (.array m e)) (hz : TI P e ag zv z by')
    (ho : o.op = .slice t x none none none) (hx : ev E x = .pointer (some a)) : PV P E o (.slice (some a) m m) := fun u => by
  have ha : (if m = 0 then a else a.add 0) = a := by split <;> rfl
  simp [execOp, ho, hx, Instr.sliceAt, Instr.sureAddr, Instr.sliceBounds, run_underlying ht, hz.sizeOf, ha]
/-- a function held in a slot -/
theorem rc_callV {f : FuncId} {y : Operand} {xs : Array Operand} {ts : Array TypeId} {vs : List Value} {u : World} (hf : Callable P f) (ho : o.op = .call { callee := .value y, args := xs, argTypes := ts }) (hy : ev E y = .func (.func f) #[] #[]) (hx : xs.toList.map (ev E) = vs) :
    (execOp (ev E) o).run P u = .ok (.enter f vs.toArray) u := by
  obtain ⟨fn, h1, h2, h3⟩ := hf
  subst hx
  have h2' : ¬ fn.name = "runtime.NumGoroutine" := by simpa using h2
  have h3' : ¬ fn.body = none := by intro h; simp [h] at h3
  have e : xs.map (ev E) = (xs.toList.map (ev E)).toArray := by rw [← Array.toList_map, Array.toArray_toList]
  rw [← e]
  simp only [execOp, ho, resolve, hy]
  show Sem.run P (invoke (Target.fn (.func f) #[]) (#[] ++ xs.map (ev E))) u = _
  simp [invoke, callFunc, program, Sem.run, h1, h2', h3']
end
theorem flat_zeros : ∀ n : Nat, (List.replicate n (0 : Int)).flatMap encI = List.replicate n (Value.int .i64 0) := fun n => by
  induction n with
  | zero => rfl
  | succ n ih => rw [List.replicate_succ, List.flatMap_cons, ih]; rfl
/-- an array just made: a row of zeros -/
theorem arr_own {w : World} {g t base n : Nat} (h : Blk w g t (List.replicate n (Value.int .i64 0))) (hb : base ≤ g) (hn : n ≤ maxLen) : Own encI 1 w base t (.slice (some ⟨g, 0, none⟩) n n) (List.replicate n 0) :=
  Blk.own (xs := List.replicate n 0) ((flat_zeros n).symm ▸ h) hb (by simp) hn (by rw [flat_zeros n]; simp)

section
variable {P : Program} {E : Env} {w : World}
theorem resCT {r t : Nat} {x : Value} {ty : TypeId} {zv : Value} {z by' : Nat} {a : Addr} {cs : List Value} (ht : TI P ty true zv z by') (hx : E r = x) (hv : E t = .pointer (some a)) (hz : cs.length = z) (hc : ∀ j v, cs[j]? = some v → w.cell? (a.add j) = some v) :
    ResIs P #[.cell t ty, .tmp r] E w (.tuple #[.agg cs.toArray, x]) := fun fn tmps h ht' => by
  have h1 := run_loadCells_list (P := P) w a cs hc
  subst hz
  subst hx
  have g : tmps[t]?.getD undef = .pointer (some a) := by rw [← Array.getD_eq_getD_getElem?, ht' t, hv]
  have g2 : tmps[r]?.getD undef = E r := by rw [← Array.getD_eq_getD_getElem?, ht' r]
  simp [results, h, g, g2, asAddr, loadVar, ht.isAgg, ht.sizeOf, h1]
theorem finCT {r t : Nat} {x : Value} {ty : TypeId} {zv : Value} {z by' : Nat} {a : Addr} {cs : List Value} {S : Value → World → Prop} (ht : TI P ty true zv z by') (hv : E t = .pointer (some a)) (hx : E r = x) (hz : cs.length = z) (hc : ∀ j v, cs[j]? = some v → w.cell? (a.add j) = some v)
    (h : S (.tuple #[.agg cs.toArray, x]) w) : FQ P #[.cell t ty, .tmp r] S .ret E w := ⟨_, resCT ht hx hv hz hc, h⟩
theorem resCTT {r q t : Nat} {x y : Value} {ty : TypeId} {zv : Value} {z by' : Nat} {a : Addr} {cs : List Value} (ht : TI P ty true zv z by') (hx : E r = x) (hy : E q = y) (hv : E t = .pointer (some a)) (hz : cs.length = z) (hc : ∀ j v, cs[j]? = some v → w.cell? (a.add j) = some v) :
    ResIs P #[.cell t ty, .tmp r, .tmp q] E w (.tuple #[.agg cs.toArray, x, y]) := fun fn tmps h ht' => by
  have h1 := run_loadCells_list (P := P) w a cs hc
  subst hz
  subst hx
  subst hy
  have g : tmps[t]?.getD undef = .pointer (some a) := by rw [← Array.getD_eq_getD_getElem?, ht' t, hv]
  have g2 : tmps[r]?.getD undef = E r := by rw [← Array.getD_eq_getD_getElem?, ht' r]
  have g3 : tmps[q]?.getD undef = E q := by rw [← Array.getD_eq_getD_getElem?, ht' q]
  simp [results, h, g, g2, g3, asAddr, loadVar, ht.isAgg, ht.sizeOf, h1]
theorem finCTT {r q t : Nat} {x y : Value} {ty : TypeId} {zv : Value} {z by' : Nat} {a : Addr} {cs : List Value} {S : Value → World → Prop} (ht : TI P ty true zv z by') (hv : E t = .pointer (some a)) (hx : E r = x) (hy : E q = y) (hz : cs.length = z) (hc : ∀ j v, cs[j]? = some v → w.cell? (a.add j) = some v)
    (h : S (.tuple #[.agg cs.toArray, x, y]) w) : FQ P #[.cell t ty, .tmp r, .tmp q] S .ret E w := ⟨_, resCTT ht hx hy hv hz hc, h⟩
end
end Go.Proofs.Ytdnncgapbjnfoaa

/-
  Interfaces: a method called through one, making one, asking one for its value. No conditions.
-/
import Derived.Test.YtielahdnccocdaaArr
namespace Go.Proofs.Ytielahdnccocdaa
open Go Go.RowKit
set_option linter.unusedVariables false

section
variable {P : Program} {E : Env} {o : Oper} {w : World}
def methRow (P : Program) (t : TypeId) (name : String) : Option (List FieldStep × Option (FuncId × Bool)) :=
  (P.info? t).bind fun i => (i.methods.find? (·.name == name)).map fun m => (m.path.toList, m.func)
theorem methRow_some {t : TypeId} {name : String} {q : List FieldStep × Option (FuncId × Bool)} (h : methRow P t name = some q) : ∃ i m, P.info? t = some i ∧ i.methods.find? (·.name == name) = some m ∧ m.path.toList = q.1 ∧ m.func = q.2 := by
  unfold methRow at h
  cases h1 : P.info? t with
  | none => rw [h1] at h; cases h
  | some i =>
    rw [h1] at h
    simp only [Option.bind_some, Option.map_eq_some_iff] at h
    obtain ⟨m, h2, h3⟩ := h
    subst h3
    exact ⟨i, m, rfl, h2, rfl, rfl⟩
theorem run_method_ptr {t elem : TypeId} {name : String} {f : FuncId} {v : Value} (hu : P.underlying t = some (.pointer elem)) (hm : methRow P t name = some ([], some (f, true))) (n : Nat) :
    (method (n + 1) t v name).run P w = .ok (f, v) w := by
  obtain ⟨i, m, h1, h2, h3, h4⟩ := methRow_some hm
  simp [method, typeInfo, h1, h2, h3, h4, follow, receiverAt, run_underlying hu, Place.get]
theorem run_wrap {ts : Array TypeId} {t : TypeId} {a : Addr} {x y : String} : (Builtin.ssaWrapNilChk_ ts t #[.pointer (some a), strVal x, strVal y]).run P w = .ok (.pointer (some a)) w := rfl
theorem run_method_val {t elem : TypeId} {name : String} {f : FuncId} {a : Addr} {x : Value} (hu : P.underlying t = some (.pointer elem)) (hm : methRow P t name = some ([], some (f, false))) (hl : (loadVar elem a).run P w = .ok x w) (n : Nat) :
    (method (n + 1) t (.pointer (some a)) name).run P w = .ok (f, x) w := by
  obtain ⟨i, m, h1, h2, h3, h4⟩ := methRow_some hm
  have h5 : m.path = #[] := by rw [← Array.toList_eq_nil_iff]; exact h3
  simp [method, typeInfo, h1, h2, h4, h5, follow, receiverAt, run_underlying hu, Place.get, run_wrap, asAddr, hl]
theorem run_load {t : TypeId} {zv : Value} {z by' : Nat} {a : Addr} {v : Value} (ht : TI P t false zv z by') (hc : w.cell? a = some v) : (loadVar t a).run P w = .ok v w := by
  have hag := ht.isAgg w
  simp [loadVar, hag, load, Sem.run, hc]
/-- a method called through an interface -/
theorem rc_invoke {f : FuncId} {y : Operand} {name : String} {t : TypeId} {v r : Value} {xs : Array Operand} {ts : Array TypeId} {vs : List Value} (hf : Callable P f) (hm : ∀ n, (method (n + 1) t v name).run P w = .ok (f, r) w)
    (ho : o.op = .call { callee := .invoke y name, args := xs, argTypes := ts }) (hy : ev E y = .iface t v) (hx : xs.toList.map (ev E) = vs) :
    (execOp (ev E) o).run P w = .ok (.enter f (r :: vs).toArray) w := by
  obtain ⟨fn, h1, h2, h3⟩ := hf
  subst hx
  have h2' : ¬ fn.name = "runtime.NumGoroutine" := by simpa using h2
  have h3' : ¬ fn.body = none := by intro h; simp [h] at h3
  have e : #[r] ++ xs.map (ev E) = (r :: xs.toList.map (ev E)).toArray := by
    rw [← Array.toList_map, ← Array.toArray_toList (xs := xs.map (ev E))]; simp
  rw [← e]
  have e2 : (#[ev E y] ++ xs.map (ev E)).extract 1 (#[ev E y] ++ xs.map (ev E)).size = xs.map (ev E) := by simp
  have hm' : ∀ n, 0 < n → (method n t v name).run P w = .ok (f, r) w := fun n hn => by
    obtain ⟨k, rfl⟩ : ∃ k, n = k + 1 := ⟨n - 1, by omega⟩
    exact hm k
  have hd : 0 < P.types.size + Made.depth := by have : 0 < Made.depth := by decide
                                                omega
  have e0 : (#[ev E y] ++ xs.map (ev E))[0]? = some (ev E y) := by rw [Array.getElem?_append_left (by simp)]; rfl
  have k1 : invoke (Target.fn (.method name) #[]) (#[ev E y] ++ xs.map (ev E)) = callMethod (ev E y) name (xs.map (ev E)) := by
    simp only [invoke, e0, e2]
  simp only [execOp, ho, resolve]
  show Sem.run P (invoke (Target.fn (.method name) #[]) (#[ev E y] ++ xs.map (ev E))) w = _
  rw [k1, hy]
  simp [callMethod, hm' _ hd, callFunc, h1, h2', h3']
theorem pv_quot {t t' : TypeId} {x y : Operand} {a b r : Int} (ho : o.op = .binOp .quo t x y t') (hx : ev E x = .int .i64 a) (hy : ev E y = .int .i64 b) (hb : b ≠ 0) (he : a.tdiv b = r) (h1 : -9223372036854775808 ≤ r) (h2 : r ≤ 9223372036854775807) : PV P E o (.int .i64 r) :=
  pv_bin ho hx hy fun u => by
    subst he
    simp [binOp, Op.intDiv, hb, wrap_ok h1 h2]
theorem pv_mkif {t : TypeId} {u : TypeDesc} {x : Operand} {v : Value} (hu : P.underlying t = some u) (hi : (match u with | .interface _ => false | _ => true) = true) (ho : o.op = .makeInterface t x) (hx : ev E x = v) : PV P E o (.iface t v) := fun w => by
  subst hx
  cases u <;> simp_all [execOp, Instr.makeInterface, run_underlying hu]
theorem pv_assert {t xt : TypeId} {u : TypeDesc} {x : Operand} {v : Value} (hu : P.underlying t = some u) (hi : (match u with | .interface _ => false | _ => true) = true) (ho : o.op = .typeAssert x xt t false) (hx : ev E x = .iface t v) : PV P E o v := fun w => by
  cases u <;> simp_all [execOp, Instr.typeAssert, run_underlying hu]
theorem pv_field {t f : Nat} {fs : Array Field} {fd : Field} {x : Operand} {cs : Array Value} {zv v : Value} {z by' : Nat} (hu : P.underlying t = some (.struct fs)) (hfd : fs[f]? = some fd) (ht : TI P fd.type false zv z by') (ho : o.op = .field t x f) (hx : ev E x = .agg cs) (hv : cs[fd.offset]? = some v) : PV P E o v := fun w => by
  simp [execOp, ho, hx, Instr.field, run_underlying hu, hfd, asAgg, part, ht.isAgg, hv]
end
/-- a row behind a variable of its own -/
def HeapIs (bt et : TypeId) (w : World) (base g : Nat) (xs : List Bt) : Prop :=
  ∃ A c, Blk w g bt [.slice A xs.length c] ∧ Own encB 2 w base et (.slice A xs.length c) xs ∧ base ≤ g ∧ ∀ s ∈ obl (.slice A xs.length c), s ≠ g
theorem heap_as {bt et base g : Nat} {w : World} {A : Option Addr} {n c : Nat} {ys L : List Bt} (hB : Blk w g bt [.slice A n c]) (hO : Own encB 2 w base et (.slice A n c) ys) (he : ys = L) (hg : base ≤ g) (hd : ∀ s ∈ obl (.slice A n c), s ≠ g) : HeapIs bt et w base g L := by
  subst he
  have hl := hO.le.2.2
  have : n = ys.length := by omega
  subst this
  exact ⟨A, c, hB, hO, hg, hd⟩
end Go.Proofs.Ytielahdnccocdaa

/-
  Beats: their cells; structs that are compared; results that lie in memory; and, plain: who is heard, who is alive. No conditions.
-/
import Derived.Test.YtdnncgapbjnfoaaKinds
import Derived.Laws.StructEq
namespace Go.Proofs.Ytdnncgapbjnfoaa
open Go Go.RowKit
set_option linter.unusedVariables false

structure Bt where
  s : Int
  a : Int
instance : Inhabited Bt := ⟨⟨0, 0⟩⟩
def encB (b : Bt) : List Value := [.int .i64 b.s, .int .i64 b.a]
theorem bt_ext {x y : Bt} (h1 : x.s = y.s) (h2 : x.a = y.a) : x = y := by
  cases x; cases y; simp_all

/-! structs of two numbers are compared -/
section
variable {P : Program} {E : Env} {o : Oper}
theorem eqS2 {t : TypeId} {f0 f1 : Field} (hu : P.underlying t = some (.struct #[f0, f1])) (h0 : f0.name ≠ "_") (h1 : f1.name ≠ "_") (o0 : f0.offset = 0) (o1 : f1.offset = 1)
    {zv0 zv1 : Value} {b0 b1 : Nat} (t0 : TI P f0.type false zv0 1 b0) (t1 : TI P f1.type false zv1 1 b1) (u0 : P.underlying f0.type = some (.int .i64)) (u1 : P.underlying f1.type = some (.int .i64)) (hp : P.stoodInHeld t = false) (a b c d : Int) (u : World) :
    (Op.equalIn 10000 t (.agg #[.int .i64 a, .int .i64 b]) (.agg #[.int .i64 c, .int .i64 d])).run P u = .ok (a == c && b == d) u := by
  have hf : P.fieldsOf t = #[f0, f1] := by unfold Program.fieldsOf; rw [hu]
  rw [run_equalIn_agg (P := P) u 9999 t _ _ (by rw [hf]; exact hu) hp, hf]
  have p0 : ∀ (x y : Int), (part f0.type #[.int .i64 x, .int .i64 y] f0.offset).run P u = .ok (.int .i64 x) u := fun x y => by
    simp [part, t0.isAgg, o0]
  have p1 : ∀ (x y : Int), (part f1.type #[.int .i64 x, .int .i64 y] f1.offset).run P u = .ok (.int .i64 y) u := fun x y => by
    simp [part, t1.isAgg, o1]
  have e0 := run_equalIn_int (P := P) u 9998 f0.type .i64 .i64 a c u0
  have e1 := run_equalIn_int (P := P) u 9998 f1.type .i64 .i64 b d u1
  simp only [Op.eqFields, h0, h1, ne_eq, not_false_eq_true, if_true, Sem.run_bind, p0, Result.andThen_ok, e0]
  cases h : (a == c)
  · simp
  · simp only [Bool.not_true, Bool.false_eq_true, if_false, Sem.run_bind, p1, Result.andThen_ok, e1, Bool.true_and]
    cases h2 : (b == d) <;> simp
theorem pv_neqS2 {t t' : TypeId} {x y : Operand} {a b c d : Int} (hm : P.eqGuardType P.depth t = false)
    (hq : ∀ (a b c d : Int) (u : World), (Op.equalIn 10000 t (.agg #[.int .i64 a, .int .i64 b]) (.agg #[.int .i64 c, .int .i64 d])).run P u = .ok (a == c && b == d) u)
    (ho : o.op = .binOp .neq t x y t') (hx : ev E x = .agg #[.int .i64 a, .int .i64 b]) (hy : ev E y = .agg #[.int .i64 c, .int .i64 d]) : PV P E o (.bool (decide (¬(a = c ∧ b = d)))) := fun u => by
  have hg := run_eqGuard_agg (P := P) u .neq t x y #[.int .i64 a, .int .i64 b] #[.int .i64 c, .int .i64 d] hm
  have hn := run_neq_struct (P := P) u t #[.int .i64 a, .int .i64 b] #[.int .i64 c, .int .i64 d]
  rw [hq] at hn
  simp only [execOp, ho, hx, hy]
  simp only [Sem.run_bind, hg, hn, Result.andThen_ok, Sem.run_pure]
  congr 3
  by_cases h1 : a = c <;> by_cases h2 : b = d <;> simp [h1, h2]
end

/-! results that lie in memory -/
section
variable {P : Program} {E : Env} {w : World}
theorem resC {t : Nat} {ty : TypeId} {zv : Value} {z by' : Nat} {a : Addr} {cs : List Value} (ht : TI P ty true zv z by') (hv : E t = .pointer (some a)) (hz : cs.length = z) (hc : ∀ j v, cs[j]? = some v → w.cell? (a.add j) = some v) :
    ResIs P #[.cell t ty] E w (.agg cs.toArray) := fun fn tmps h ht' => by
  have h1 := run_loadCells_list (P := P) w a cs hc
  subst hz
  have g : tmps[t]?.getD undef = .pointer (some a) := by rw [← Array.getD_eq_getD_getElem?, ht' t, hv]
  simp [results, h, g, asAddr, loadVar, ht.isAgg, ht.sizeOf, h1]
theorem resTC {r t : Nat} {x : Value} {ty : TypeId} {zv : Value} {z by' : Nat} {a : Addr} {cs : List Value} (ht : TI P ty true zv z by') (hx : E r = x) (hv : E t = .pointer (some a)) (hz : cs.length = z) (hc : ∀ j v, cs[j]? = some v → w.cell? (a.add j) = some v) :
    ResIs P #[.tmp r, .cell t ty] E w (.tuple #[x, .agg cs.toArray]) := fun fn tmps h ht' => by
  have h1 := run_loadCells_list (P := P) w a cs hc
  subst hz
  subst hx
  have g : tmps[t]?.getD undef = .pointer (some a) := by rw [← Array.getD_eq_getD_getElem?, ht' t, hv]
  have g2 : tmps[r]?.getD undef = E r := by rw [← Array.getD_eq_getD_getElem?, ht' r]
  simp [results, h, g, g2, asAddr, loadVar, ht.isAgg, ht.sizeOf, h1]
theorem finC {t : Nat} {ty : TypeId} {zv : Value} {z by' : Nat} {a : Addr} {cs : List Value} {S : Value → World → Prop} (ht : TI P ty true zv z by') (hv : E t = .pointer (some a)) (hz : cs.length = z) (hc : ∀ j v, cs[j]? = some v → w.cell? (a.add j) = some v)
    (h : S (.agg cs.toArray) w) : FQ P #[.cell t ty] S .ret E w := ⟨_, resC ht hv hz hc, h⟩
theorem finTC {r t : Nat} {x : Value} {ty : TypeId} {zv : Value} {z by' : Nat} {a : Addr} {cs : List Value} {S : Value → World → Prop} (ht : TI P ty true zv z by') (hx : E r = x) (hv : E t = .pointer (some a)) (hz : cs.length = z) (hc : ∀ j v, cs[j]? = some v → w.cell? (a.add j) = some v)
    (h : S (.tuple #[x, .agg cs.toArray]) w) : FQ P #[.tmp r, .cell t ty] S .ret E w := ⟨_, resTC ht hx hv hz hc, h⟩
theorem to_n {rs : Array ResultVar} {S : Value → World → Prop} (h : FQ P rs S .ret E w) : FQ P rs S .normal E w := h
end

/-! the book: a lock that is free, and a row of its own -/
def BookIs (bt et : TypeId) (w : World) (base g : Nat) (xs : List Bt) : Prop :=
  ∃ A c, Blk w g bt [.int .i32 0, .int .u32 0, .slice A xs.length c] ∧ Own encB 2 w base et (.slice A xs.length c) xs ∧ base ≤ g ∧ ∀ s ∈ obl (.slice A xs.length c), s ≠ g
theorem BookIs.ch0 {bt et base g : Nat} {w w' : World} {xs : List Bt} (h : BookIs bt et w base g xs) (hc : Ch [] w w') : BookIs bt et w' base g xs := by
  obtain ⟨A, c, h1, h2, h3, h4⟩ := h
  exact ⟨A, c, h1.ch0 hc, h2.ch0 hc, h3, h4⟩
theorem BookIs.lt {bt et base g : Nat} {w : World} {xs : List Bt} (h : BookIs bt et w base g xs) : g < w.heap.size := by
  obtain ⟨A, c, h1, _⟩ := h
  exact h1.lt

theorem book_as {bt et base g : Nat} {w : World} {A : Option Addr} {n c : Nat} {ys L : List Bt} (hB : Blk w g bt [.int .i32 0, .int .u32 0, .slice A n c]) (hO : Own encB 2 w base et (.slice A n c) ys) (he : ys = L) (hg : base ≤ g) (hgo : ∀ s ∈ obl (.slice A n c), s ≠ g) : BookIs bt et w base g L := by
  have hn : n = L.length := by rw [← he]; exact hO.le.2.2.symm
  subst hn
  subst he
  exact ⟨A, c, hB, hO, hg, hgo⟩
theorem shifted {xs : List Bt} {x0 x : Bt} {k q : Nat} (hk : k ≤ xs.length) (hq : q = xs.length - k) :
    (((xs ++ [x0]).take (k + 1) ++ ((xs ++ [x0]).drop k).take q ++ (xs ++ [x0]).drop (k + 1 + q)).set k x) = xs.take k ++ [x] ++ xs.drop k := by
  have h1 : ((xs ++ [x0]).drop k).take q = xs.drop k := by
    rw [List.drop_append_of_le_length hk, List.take_append_of_le_length (by simp; omega), List.take_of_length_le (by simp; omega)]
  have h2 : (xs ++ [x0]).drop (k + 1 + q) = [] := List.drop_of_length_le (by simp; omega)
  have h3 : (xs ++ [x0]).take (k + 1) = xs.take k ++ [el (xs ++ [x0]) k] := by
    rw [take_snoc _ _ (by simp; omega), List.take_append_of_le_length hk]
  have hl : (xs.take k).length = k := by simp; omega
  rw [h1, h2, h3, List.append_nil, List.append_assoc, List.set_append_right _ _ (by omega), hl, Nat.sub_self, List.append_assoc]
  rfl

/-! plain: validity -/
def BtOK (b : Bt) : Prop := (1 ≤ b.s ∧ b.s ≤ 99) ∧ (0 ≤ b.a ∧ b.a ≤ 9999)
def BeatsOK (xs : List Bt) : Prop := xs.length ≤ 8 ∧ ∀ j, j < xs.length → (((1 ≤ (el xs j).s ∧ (el xs j).s ≤ 99) ∧ (0 ≤ (el xs j).a ∧ (el xs j).a ≤ 9999)) ∧ (0 < j → (el xs ((j : Int) - 1).toNat).s < (el xs j).s))
def AscB (xs : List Bt) : Prop := ∀ i j, i < j → j < xs.length → (el xs i).s < (el xs j).s
theorem asc_of {xs : List Bt} (h : ∀ j, 0 < j → j < xs.length → (el xs ((j : Int) - 1).toNat).s < (el xs j).s) : AscB xs := by
  intro i j hij hj
  induction j with
  | zero => omega
  | succ j ih =>
    have h1 := h (j + 1) (by omega) hj
    rw [show (((j + 1 : Nat) : Int) - 1).toNat = j by omega] at h1
    by_cases e : i = j
    · subst e; exact h1
    · have := ih (by omega) (by omega); omega
theorem BeatsOK.asc {xs : List Bt} (h : BeatsOK xs) : AscB xs := asc_of fun j h0 hj => (h.2 j hj).2 h0
theorem BeatsOK.ok {xs : List Bt} (h : BeatsOK xs) {j : Nat} (hj : j < xs.length) : BtOK (el xs j) := (h.2 j hj).1
theorem beatsOK_of {xs : List Bt} (h0 : xs.length ≤ 8) (h1 : ∀ j, j < xs.length → BtOK (el xs j)) (h2 : AscB xs) : BeatsOK xs :=
  ⟨h0, fun j hj => ⟨h1 j hj, fun hj0 => h2 _ _ (by omega) hj⟩⟩
theorem beats_one {x : Bt} : BeatsOK [x] ↔ BtOK x :=
  ⟨fun h => h.ok (j := 0) (by simp), fun h => beatsOK_of (by simp) (fun j hj => by
    have : j = 0 := by simpa using hj
    subst this; exact h) (fun i j hij hj => by simp at hj; omega)⟩
theorem el_app {α : Type} [Inhabited α] (xs ys : List α) (j : Nat) : el (xs ++ ys) j = if j < xs.length then el xs j else el ys (j - xs.length) := by
  unfold el
  simp only [List.getD_eq_getElem?_getD]
  by_cases h : j < xs.length
  · rw [if_pos h, List.getElem?_append_left h]
  · rw [if_neg h, List.getElem?_append_right (by omega)]
theorem beats_without {xs : List Bt} (h : BeatsOK xs) {d e : Nat} (he : e = d + 1) (hd : d < xs.length) : BeatsOK (xs.take d ++ xs.drop e) := by
  subst he
  have h0 := h.1
  have hl : (xs.take d ++ xs.drop (d + 1)).length = xs.length - 1 := by simp; omega
  have ht : (xs.take d).length = d := by simp; omega
  have he : ∀ j, el (xs.take d ++ xs.drop (d + 1)) j = if j < d then el xs j else el xs (j + 1) := fun j => by
    rw [el_app, ht]
    by_cases hj : j < d
    · rw [if_pos hj, if_pos hj, el_take _ _ _ hj]
    · rw [if_neg hj, if_neg hj, el_drop, show d + 1 + (j - d) = j + 1 by omega]
  refine beatsOK_of (by omega) (fun j hj => ?_) (fun i j hij hj => ?_)
  · rw [he]
    split
    · exact h.ok (by omega)
    · exact h.ok (by omega)
  · rw [he, he]
    split <;> split <;> exact h.asc _ _ (by omega) (by omega)
theorem beats_twice {xs : List Bt} {d e : Nat} (he : e = d + 1) (hd : d < xs.length) : ¬BeatsOK (xs.take e ++ xs.drop d) := by
  subst he
  intro h
  have ht : (xs.take (d + 1)).length = d + 1 := by simp; omega
  have hl : (xs.take (d + 1) ++ xs.drop d).length = xs.length + 1 := by simp; omega
  have h1 := h.asc d (d + 1) (by omega) (by omega)
  rw [el_app, el_app, ht, if_pos (by omega), if_neg (by omega), el_take _ _ _ (by omega), el_drop] at h1
  simp at h1

/-! plain: servers that are alive, or dead -/
def srvP (now within : Int) (al : Bool) (b : Bt) : Bool := decide (now - b.a < within) == al
def srvL (xs : List Bt) (now within : Int) (al : Bool) : List Int := (xs.filter (srvP now within al)).map Bt.s
theorem srvL_nil (now within : Int) (al : Bool) : srvL [] now within al = [] := rfl
theorem srvL_yes (xs : List Bt) (now within : Int) (al : Bool) (k : Nat) (hk : k < xs.length) (h : srvP now within al (el xs k) = true) : srvL (xs.take (k + 1)) now within al = srvL (xs.take k) now within al ++ [(el xs k).s] := by
  unfold srvL
  rw [take_snoc xs k hk, List.filter_append, List.map_append, List.filter_cons, if_pos h]
  rfl
theorem srvL_no (xs : List Bt) (now within : Int) (al : Bool) (k : Nat) (hk : k < xs.length) (h : srvP now within al (el xs k) = false) : srvL (xs.take (k + 1)) now within al = srvL (xs.take k) now within al := by
  unfold srvL
  rw [take_snoc xs k hk, List.filter_append, List.map_append, List.filter_cons, if_neg (by simp [h])]
  simp
theorem srvL_le (xs : List Bt) (now within : Int) (al : Bool) : (srvL xs now within al).length ≤ xs.length := by
  unfold srvL; rw [List.length_map]; exact List.length_filter_le _ _
def SrvOK (xs : List Bt) (now within : Int) : Prop := BeatsOK xs ∧ (0 ≤ now ∧ now ≤ 9999) ∧ (1 ≤ within ∧ within ≤ 9999)
noncomputable def srvV (xs : List Bt) (now within : Int) (al : Bool) : List Int := bif dec (SrvOK xs now within) then srvL xs now within al else []
theorem srvV_yes {xs : List Bt} {now within : Int} {al : Bool} (h : SrvOK xs now within) : srvV xs now within al = srvL xs now within al := by unfold srvV; rw [dec_yes h]; rfl
theorem srvV_no {xs : List Bt} {now within : Int} {al : Bool} (h : ¬SrvOK xs now within) : srvV xs now within al = [] := by unfold srvV; rw [dec_no h]; rfl
theorem srvV_le (xs : List Bt) (now within : Int) (al : Bool) : (srvV xs now within al).length ≤ 8 := by
  by_cases h : SrvOK xs now within
  · rw [srvV_yes h]; have := srvL_le xs now within al; have := h.1.1; omega
  · rw [srvV_no h]; simp
theorem srvV_some {xs : List Bt} {now within : Int} {al : Bool} (h : (srvV xs now within al).length ≠ 0) : SrvOK xs now within := by
  rcases Classical.em (SrvOK xs now within) with h1 | h1
  · exact h1
  · rw [srvV_no h1] at h; exact absurd rfl h
theorem mem_el {α : Type} [Inhabited α] {xs : List α} {y : α} : y ∈ xs ↔ ∃ j, j < xs.length ∧ el xs j = y := by
  constructor
  · intro h
    obtain ⟨j, hj, e⟩ := List.getElem_of_mem h
    exact ⟨j, hj, by rw [el_eq hj]; exact e⟩
  · rintro ⟨j, hj, e⟩
    rw [← e, el_eq hj]
    exact List.getElem_mem hj
theorem el_mem {α : Type} [Inhabited α] {xs : List α} {j : Nat} (h : j < xs.length) : el xs j ∈ xs := mem_el.2 ⟨j, h, rfl⟩
theorem srv_mem {xs : List Bt} {now within : Int} {al : Bool} {y : Int} : y ∈ srvL xs now within al ↔ ∃ j, j < xs.length ∧ (decide (now - (el xs j).a < within) = al) ∧ (el xs j).s = y := by
  unfold srvL
  rw [List.mem_map]
  constructor
  · rintro ⟨b, hb, rfl⟩
    rw [List.mem_filter] at hb
    obtain ⟨j, hj, rfl⟩ := mem_el.1 hb.1
    exact ⟨j, hj, by simpa [srvP] using hb.2, rfl⟩
  · rintro ⟨j, hj, h1, h2⟩
    exact ⟨el xs j, List.mem_filter.2 ⟨el_mem hj, by simp [srvP, h1]⟩, h2⟩
theorem srv_mem_at {xs : List Bt} (h : AscB xs) {now within : Int} {al : Bool} {i : Nat} (hi : i < xs.length) : (el xs i).s ∈ srvL xs now within al ↔ decide (now - (el xs i).a < within) = al := by
  rw [srv_mem]
  constructor
  · rintro ⟨j, hj, h1, h2⟩
    have : j = i := by
      rcases Nat.lt_trichotomy i j with h3 | h3 | h3
      · have := h i j h3 hj; omega
      · exact h3.symm
      · have := h j i h3 hi; omega
    subst this
    exact h1
  · intro h1
    exact ⟨i, hi, h1, rfl⟩
theorem srv_both (xs : List Bt) (now within : Int) : (srvL xs now within true).length + (srvL xs now within false).length = xs.length := by
  unfold srvL
  rw [List.length_map, List.length_map]
  induction xs with
  | nil => rfl
  | cons x r ih =>
    simp only [List.filter_cons, srvP] at ih ⊢
    by_cases h : now - x.a < within <;> simp [h] <;> omega

/-! plain: a server is heard -/
def hearL : List Bt → Bt → List Bt
  | [], x => [x]
  | b :: r, x => if b.s < x.s then b :: hearL r x else if b.s = x.s then ⟨b.s, max b.a x.a⟩ :: r else x :: b :: r
def IsPlace (xs : List Bt) (x : Bt) (k : Nat) : Prop := k ≤ xs.length ∧ (∀ j, j < k → (el xs j).s < x.s) ∧ (k < xs.length → ¬(el xs k).s < x.s)
theorem hearL_at {x : Bt} : ∀ (xs : List Bt) (k : Nat), IsPlace xs x k → k < xs.length → (el xs k).s = x.s → hearL xs x = xs.set k ⟨(el xs k).s, max (el xs k).a x.a⟩ := by
  intro xs
  induction xs with
  | nil => intro k _ h; simp at h
  | cons b r ih =>
    intro k hp hk he
    cases k with
    | zero =>
      have hb : el (b :: r) 0 = b := rfl
      rw [hb] at he ⊢
      unfold hearL
      rw [if_neg (by omega), if_pos he]
      rfl
    | succ k =>
      have hb : b.s < x.s := hp.2.1 0 (by omega)
      have he' : el (b :: r) (k + 1) = el r k := rfl
      rw [he'] at he ⊢
      unfold hearL
      rw [if_pos hb, List.set_cons_succ, ih k ⟨by have := hp.1; simpa using this, fun j hj => hp.2.1 (j + 1) (by omega), fun h => hp.2.2 (by simpa using h)⟩ (by simpa using hk) he]
theorem hearL_new {x : Bt} : ∀ (xs : List Bt) (k : Nat), IsPlace xs x k → ¬(k < xs.length ∧ (el xs k).s = x.s) → hearL xs x = xs.take k ++ [x] ++ xs.drop k := by
  intro xs
  induction xs with
  | nil =>
    intro k hp _
    have : k = 0 := by have := hp.1; simpa using this
    subst this; rfl
  | cons b r ih =>
    intro k hp hn
    cases k with
    | zero =>
      have h1 : ¬ b.s < x.s := hp.2.2 (by simp)
      have h2 : ¬ b.s = x.s := fun e => hn ⟨by simp, e⟩
      unfold hearL
      rw [if_neg h1, if_neg h2]
      rfl
    | succ k =>
      have hb : b.s < x.s := hp.2.1 0 (by omega)
      unfold hearL
      rw [if_pos hb, ih k ⟨by have := hp.1; simpa using this, fun j hj => hp.2.1 (j + 1) (by omega), fun h => hp.2.2 (by simpa using h)⟩ (fun h => hn ⟨by simpa using h.1, h.2⟩)]
      simp
theorem place_exists (xs : List Bt) (x : Bt) : ∃ k, IsPlace xs x k := by
  induction xs with
  | nil => exact ⟨0, Nat.le_refl _, fun j hj => by omega, fun h => by simp at h⟩
  | cons b r ih =>
    by_cases hb : b.s < x.s
    · obtain ⟨k, h1, h2, h3⟩ := ih
      refine ⟨k + 1, by simpa using h1, fun j hj => ?_, fun h => h3 (by simpa using h)⟩
      cases j with
      | zero => exact hb
      | succ j => exact h2 j (by omega)
    · exact ⟨0, by simp, fun j hj => by omega, fun _ => hb⟩
/-- what the reference does, element by element -/
def hearStep (x : Bt) (st : Bool × List Bt) (b : Bt) : Bool × List Bt :=
  if b.s = x.s then (true, st.2 ++ [⟨b.s, max b.a x.a⟩]) else if st.1 = false ∧ x.s < b.s then (true, st.2 ++ [x] ++ [b]) else (st.1, st.2 ++ [b])
def hearS (x : Bt) (xs : List Bt) : Bool × List Bt := xs.foldl (hearStep x) (false, [])
theorem hearS_snoc (x : Bt) (xs : List Bt) (k : Nat) (h : k < xs.length) : hearS x (xs.take (k + 1)) = hearStep x (hearS x (xs.take k)) (el xs k) := by
  unfold hearS
  rw [take_snoc xs k h, List.foldl_append]
  rfl
theorem hear_done (x : Bt) : ∀ (r o : List Bt), (∀ b ∈ r, x.s < b.s) → r.foldl (hearStep x) (true, o) = (true, o ++ r) := by
  intro r
  induction r with
  | nil => intro o _; simp
  | cons b r ih =>
    intro o h
    have hb := h b (by simp)
    rw [List.foldl_cons]
    have e : hearStep x (true, o) b = (true, o ++ [b]) := by
      unfold hearStep
      rw [if_neg (by omega), if_neg (by simp)]
    rw [e, ih _ (fun c hc => h c (by simp [hc]))]
    simp
theorem asc_tail {b : Bt} {r : List Bt} (h : AscB (b :: r)) : AscB r ∧ ∀ c ∈ r, b.s < c.s :=
  ⟨fun i j hij hj => h (i + 1) (j + 1) (by omega) (by simpa using hj), fun c hc => by
    obtain ⟨j, hj, rfl⟩ := mem_el.1 hc
    exact h 0 (j + 1) (by omega) (by simpa using hj)⟩
theorem hear_spec (x : Bt) : ∀ (xs o : List Bt), AscB xs → (bif (xs.foldl (hearStep x) (false, o)).1 then (xs.foldl (hearStep x) (false, o)).2 else (xs.foldl (hearStep x) (false, o)).2 ++ [x]) = o ++ hearL xs x := by
  intro xs
  induction xs with
  | nil => intro o _; rfl
  | cons b r ih =>
    intro o h
    obtain ⟨h1, h2⟩ := asc_tail h
    simp only [List.foldl_cons]
    unfold hearL
    by_cases hlt : b.s < x.s
    · have e : hearStep x (false, o) b = (false, o ++ [b]) := by
        unfold hearStep
        rw [if_neg (by omega), if_neg (by simp; omega)]
      rw [e, if_pos hlt, ih _ h1]
      simp
    · rw [if_neg hlt]
      by_cases heq : b.s = x.s
      · have e : hearStep x (false, o) b = (true, o ++ [⟨b.s, max b.a x.a⟩]) := by
          unfold hearStep
          rw [if_pos heq]
        rw [e, if_pos heq, hear_done x r _ (fun c hc => by have := h2 c hc; omega)]
        simp
      · have e : hearStep x (false, o) b = (true, o ++ [x] ++ [b]) := by
          unfold hearStep
          rw [if_neg heq, if_pos (by simp; omega)]
        rw [e, if_neg heq, hear_done x r _ (fun c hc => by have := h2 c hc; omega)]
        simp
theorem hear_yes {x : Bt} {xs : List Bt} {k : Nat} (hk : xs.length ≤ k) (h : AscB xs) (hd : (hearS x (xs.take k)).1 = true) : (hearS x (xs.take k)).2 = hearL xs x := by
  rw [List.take_of_length_le hk] at *
  have := hear_spec x xs [] h
  rw [List.nil_append] at this
  rw [← this]
  show _ = bif (hearS x xs).1 then (hearS x xs).2 else _
  rw [hd]
  rfl
theorem hear_no {x : Bt} {xs : List Bt} {k : Nat} (hk : xs.length ≤ k) (h : AscB xs) (hd : (hearS x (xs.take k)).1 = false) : (hearS x (xs.take k)).2 ++ [x] = hearL xs x := by
  rw [List.take_of_length_le hk] at *
  have := hear_spec x xs [] h
  rw [List.nil_append] at this
  rw [← this]
  show _ = bif (hearS x xs).1 then _ else (hearS x xs).2 ++ [x]
  rw [hd]
  rfl
theorem hearA {x : Bt} {xs : List Bt} {k : Nat} (hk : k < xs.length) (h : (el xs k).s = x.s) : hearS x (xs.take (k + 1)) = (true, (hearS x (xs.take k)).2 ++ [⟨(el xs k).s, max (el xs k).a x.a⟩]) := by
  rw [hearS_snoc x xs k hk]; unfold hearStep; rw [if_pos h]
theorem hearB {x : Bt} {xs : List Bt} {k : Nat} (hk : k < xs.length) (h : ¬(el xs k).s = x.s) (hd : (hearS x (xs.take k)).1 = false) (h2 : x.s < (el xs k).s) : hearS x (xs.take (k + 1)) = (true, (hearS x (xs.take k)).2 ++ [x] ++ [el xs k]) := by
  rw [hearS_snoc x xs k hk]; unfold hearStep; rw [if_neg h, if_pos ⟨hd, h2⟩]
theorem hearC {x : Bt} {xs : List Bt} {k : Nat} (hk : k < xs.length) (h : ¬(el xs k).s = x.s) (h2 : ¬((hearS x (xs.take k)).1 = false ∧ x.s < (el xs k).s)) : hearS x (xs.take (k + 1)) = ((hearS x (xs.take k)).1, (hearS x (xs.take k)).2 ++ [el xs k]) := by
  rw [hearS_snoc x xs k hk]; unfold hearStep; rw [if_neg h, if_neg h2]
theorem hearS_le (x : Bt) (xs : List Bt) : (hearS x xs).2.length ≤ 2 * xs.length := by
  have key : ∀ (r : List Bt) (st : Bool × List Bt), (r.foldl (hearStep x) st).2.length ≤ st.2.length + 2 * r.length := by
    intro r
    induction r with
    | nil => intro st; simp
    | cons b r ih =>
      intro st
      rw [List.foldl_cons]
      have h1 := ih (hearStep x st b)
      have h2 : (hearStep x st b).2.length ≤ st.2.length + 2 := by
        unfold hearStep
        split
        · simp
        · split <;> simp
      simp only [List.length_cons]
      omega
  have := key xs (false, [])
  simpa [hearS] using this
theorem hear_len (xs : List Bt) (x : Bt) : (hearL xs x).length ≤ xs.length + 1 := by
  induction xs with
  | nil => simp [hearL]
  | cons b r ih =>
    unfold hearL
    split
    · simp; omega
    · split <;> simp
def HearOK (xs : List Bt) (x : Bt) : Prop := BeatsOK xs ∧ BtOK x ∧ BeatsOK (hearL xs x)
noncomputable def hearV (xs : List Bt) (x : Bt) : List Bt := bif dec (HearOK xs x) then hearL xs x else []
theorem hearV_yes {xs : List Bt} {x : Bt} (h : HearOK xs x) : hearV xs x = hearL xs x := by unfold hearV; rw [dec_yes h]; rfl
theorem hearV_no {xs : List Bt} {x : Bt} (h : ¬HearOK xs x) : hearV xs x = [] := by unfold hearV; rw [dec_no h]; rfl
theorem hearV_le (xs : List Bt) (x : Bt) : (hearV xs x).length ≤ 8 := by
  by_cases h : HearOK xs x
  · rw [hearV_yes h]; exact h.2.2.1
  · rw [hearV_no h]; simp
end Go.Proofs.Ytdnncgapbjnfoaa

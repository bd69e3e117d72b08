/-
  Functions that defer one call, and the lock of package sync, over frames. No conditions; proved from the library's own laws.
-/
import Derived.Test.YtnkjljjcionfiaaKinds
import Derived.Conc.MuLone
import Derived.Defers
namespace Go.Proofs.Ytnkjljjcionfiaa
open Go Go.RowKit
set_option linter.unusedVariables false

section
variable {P : Program} {n : Nat} {D D' : List Deferred} {Q : Exit → Env → World → Prop} {E : Env} {w : World} {ops : Array Oper} {o : Oper} {K : Env → World → Prop}

def CWD (P : Program) (n : Nat) (D D' : List Deferred) (c : Code) (Q : Exit → Env → World → Prop) (E : Env) (w : World) : Prop :=
  ∀ a, Is n D E a → c.wp P (fun e a' w' => ∃ E', Is n D' E' a' ∧ Q e E' w') a w

theorem cwd_seq_l {x y : Code} (h : ∀ K : Env → World → Prop, (∀ E w, CW P n D' y Q E w → K E w) → CWD P n D D' x (thenQ K Q) E w) : CWD P n D D' (.seq x y) Q E w := by
  intro a ha
  refine wp_seq (Code.wp_mono ?_ (h _ (fun _ _ h => h) a ha))
  rintro e a' w' ⟨E', h1, h2⟩
  cases e with
  | normal => exact h2 a' h1
  | _ => exact ⟨E', h1, h2⟩

theorem cwd_seq_r {x y : Code} (h : ∀ K : Env → World → Prop, (∀ E w, CWD P n D D' y Q E w → K E w) → CW P n D x (thenQ K (fun _ _ _ => False)) E w) : CWD P n D D' (.seq x y) Q E w := by
  intro a ha
  refine wp_seq (Code.wp_mono ?_ (h _ (fun _ _ h => h) a ha))
  rintro e a' w' ⟨E', h1, h2⟩
  cases e with
  | normal => exact h2 a' h1
  | _ => exact h2.elim

def RWD (P : Program) (n : Nat) (D D' : List Deferred) (ops : Array Oper) (l : List Oper) (K : Env → World → Prop) (E : Env) (w : World) : Prop :=
  ∀ a, Is n D E a → wpList P ops (fun e a' w' => ∃ E', Is n D' E' a' ∧ e = .normal ∧ K E' w') l a w

theorem rwd_cons {rest : List Oper} (h : OpW P n D ops o (RWD P n D D' ops rest K) E w) : RWD P n D D' ops (o :: rest) K E w := by
  intro a ha
  have := h a ha (wpList P ops (fun e a' w' => ∃ E', Is n D' E' a' ∧ e = .normal ∧ K E' w') rest) (fun e a' w' => ∃ E', Is n D' E' a' ∧ e = .normal ∧ K E' w')
    (fun a' w' E' h1 h2 => h2 a' h1)
  unfold wpList
  split
  · rename_i hw
    rw [if_pos hw] at this
    exact .inl this
  · rename_i hw
    rw [if_neg hw] at this
    exact this

theorem rwd_defer {d : Deferred} (hw : Wanted n ops E o true) (hd : o.dst = none) (hr : (execOp (ev E) o).run P w = .ok (.defer d) w) (h : K E w) : RWD P n D (d :: D) ops [o] K E w := by
  intro a ha
  unfold wpList
  rw [if_pos (hw D a ha)]
  refine .inl ?_
  unfold Oper.wp
  rw [ha.eval, hr, Oper.upon_defer, hd]
  unfold wpList
  exact ⟨E, ⟨by simpa [Act.put] using ha.size, by simp [Act.put, ha.defs], by simpa [Act.put] using ha.at_⟩, rfl, h⟩

theorem rd_defer {f : FuncId} {xs : Array Operand} {ts : Array TypeId} {vs : List Value} {u : World} (ho : o.op = .defer { callee := .value (.func f), args := xs, argTypes := ts }) (hx : xs.toList.map (ev E) = vs) :
    (execOp (ev E) o).run P u = .ok (.defer { target := .fn (.func f) #[], args := vs.toArray }) u := by
  subst hx
  have e : xs.map (ev E) = (xs.toList.map (ev E)).toArray := by rw [← Array.toList_map, Array.toArray_toList]
  rw [← e]
  simp [execOp, ho, resolve, ev, Deferred.ofValue]

theorem cwd_region {id : Nat} {l : List Oper} (h : ∀ K : Env → World → Prop, (∀ E w, Q .normal E w → K E w) → RWD P n D D' l.toArray l K E w) :
    CWD P n D D' (.region id l.toArray false) Q E w := by
  intro a ha
  refine Code.wp_mono ?_ (wp_region_lit (h _ (fun _ _ h => h) a ha))
  rintro e a' w' ⟨E', h1, rfl, h2⟩
  exact ⟨E', h1, h2⟩

/-- At the door: the results are read; the deferred call is still to be made. -/
def Door (P : Program) (g : FuncId) (dargs : List Value) (w : World) (S : World → Prop) : Prop :=
  CallsD P g dargs.toArray .returning w (fun e u' w2 => u' = .returning ∧ ∃ x, e = .returned x ∧ S w2)

def FQD (P : Program) (rs : Array ResultVar) (g : FuncId) (dargs : List Value) (S : Value → World → Prop) : Exit → Env → World → Prop
  | .normal, E, w => ∃ v, (∀ u, ResIs P rs E u v) ∧ Door P g dargs w (S v)
  | .ret, E, w => ∃ v, (∀ u, ResIs P rs E u v) ∧ Door P g dargs w (S v)
  | _, _, _ => False

theorem fn_ofD {f g : FuncId} {fn : Func} {c : Code} {rs : Array ResultVar} {args dargs : List Value} {S : Value → World → Prop}
    (hf : P.funcs[f]? = some fn) (hb : fn.body = some c) (hn : fn.ntmps = n) (hrs : fn.results = rs) (hl : Nat.ble args.length n = true) (hg : Callable P g)
    (h : CWD P n [] [⟨.fn (.func g) #[], dargs.toArray⟩] c (FQD P rs g dargs S) (argE args) w) : Fn P f args w S := by
  refine calls_of_wp_defers hf hb ?_
  subst hn
  refine Code.wp_mono ?_ (h _ (Is.init args fn.ntmps hl))
  have key : ∀ (a' : Act) (w' : World) (E' : Env), Is fn.ntmps [⟨.fn (.func g) #[], dargs.toArray⟩] E' a' → (∃ v, (∀ u, ResIs P rs E' u v) ∧ Door P g dargs w' (S v)) →
      Leaves P fn a'.tmps (fun e w' => ∃ v, e = .returned v ∧ S v w') a'.defers .returning w' := by
    rintro a' w' E' h1 ⟨v, hv, hd⟩
    rw [h1.defs]
    obtain ⟨gn, g1, g2, g3⟩ := hg
    have g2' : ¬ gn.name = "runtime.NumGoroutine" := by simpa using g2
    have g3' : ¬ gn.body = none := by intro h; simp [h] at g3
    refine leaves_cons (f := g) (args := dargs.toArray) (by simp) (by simp [invoke, callFunc, program, Sem.run, g1, g2', g3']) ?_
    refine CallsD.mono hd ?_
    rintro e u' w2 ⟨rfl, x, rfl, hS⟩
    exact ⟨v, hv w2 fn _ hrs h1.at_, v, rfl, hS⟩
  rintro e a' w' ⟨E', h1, h2⟩
  cases e with
  | normal => exact key a' w' E' h1 h2
  | ret => exact key a' w' E' h1 h2
  | _ => exact h2.elim

theorem finD1 {t : Nat} {v : Value} {g : FuncId} {dargs : List Value} {S : Value → World → Prop} (hv : E t = v) (h : Door P g dargs w (S v)) : FQD P #[.tmp t] g dargs S .ret E w := ⟨v, fun _ => res1 hv, h⟩
theorem finD0 {g : FuncId} {dargs : List Value} {S : Value → World → Prop} (h : Door P g dargs w (S (.tuple #[]))) : FQD P #[] g dargs S .ret E w := ⟨_, fun _ => res0, h⟩
theorem finD0n {g : FuncId} {dargs : List Value} {S : Value → World → Prop} (h : Door P g dargs w (S (.tuple #[]))) : FQD P #[] g dargs S .normal E w := ⟨_, fun _ => res0, h⟩

open Go.Conc.Locks in
theorem lock_fn {L : MuLink} (H : MuLib P L) {g : Nat} {t : TypeId} {rest : List Value} (hB : Blk w g t (.int .i32 0 :: rest)) :
    Fn P L.lock [.pointer (some ⟨g, 0, none⟩)] w fun v w' => v = .tuple #[] ∧ Blk w' g t (.int .i32 1 :: rest) ∧ Ch [g] w w' :=
  Calls.mono (Go.MuLone.lock_free H ⟨g, 0, none⟩ w (hB.cell (i := 0) rfl) (hB.free 0)) fun e w' ⟨he, hw⟩ => ⟨_, he, rfl, by subst hw; exact hB.set 0 _, by subst hw; exact Ch.setCell w ⟨g, 0, none⟩ (.int .i32 1)⟩

open Go.Conc.Locks in
theorem unlock_door {L : MuLink} (H : MuLib P L) {g : Nat} {t : TypeId} {rest : List Value} {S : World → Prop} (hB : Blk w g t (.int .i32 1 :: rest))
    (h : ∀ w', Blk w' g t (.int .i32 0 :: rest) → Ch [g] w w' → S w') : Door P L.unlock [.pointer (some ⟨g, 0, none⟩)] w S :=
  CallsD.mono (Go.MuLone.unlock_deferred H ⟨g, 0, none⟩ .returning w (hB.cell (i := 0) rfl) (hB.free 0)) fun e u' w' ⟨hu, he, hw⟩ => ⟨hu, _, he, by subst hw; exact h _ (hB.set 0 _) (Ch.setCell w ⟨g, 0, none⟩ (.int .i32 0))⟩
end
end Go.Proofs.Ytnkjljjcionfiaa

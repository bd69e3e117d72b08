/-
  A small logic over the model's runs, for the walks of this seat: frames as functions from slots to values, one law for each kind of operation. No conditions; every law is proved from the library's own.
-/
import Derived.WalkKit
import Derived.Deep.Quiet
namespace Go.Proofs.Ytdnncgapbjnfoaa
open Go Go.RowKit
set_option linter.unusedVariables false

/-! ## frames as functions -/

abbrev Env := Nat → Value

def upd (E : Env) (d : Nat) (v : Value) : Env := fun t => bif Nat.beq t d then v else E t

def argE : List Value → Env
  | [], _ => undef
  | v :: _, 0 => v
  | _ :: r, t + 1 => argE r t

def over (J : Env) : List (Nat × Value) → Env
  | [], t => J t
  | p :: L, t => bif Nat.beq t p.1 then p.2 else over J L t

def Agree (E : Env) : List (Nat × Value) → Prop
  | [] => True
  | p :: L => E p.1 = p.2 ∧ Agree E L

theorem over_self {E : Env} {L : List (Nat × Value)} (h : Agree E L) : over E L = E := by
  induction L with
  | nil => rfl
  | cons p L ih =>
    funext t
    simp only [over]
    cases ht : Nat.beq t p.1 with
    | true =>
      have := Nat.eq_of_beq_eq_true ht
      subst this
      simpa using h.1.symm
    | false => simp [ih h.2]

def ev (E : Env) : Operand → Value
  | .tmp t => E t
  | .const v => v
  | .global g => .pointer (some ⟨g, 0, none⟩)
  | .func f => .func (.func f) #[] #[]

structure Is (n : Nat) (D : List Deferred) (E : Env) (a : Act) : Prop where
  size : a.tmps.size = n
  defs : a.defers = D
  at_ : ∀ t, a.tmps.getD t undef = E t

theorem Is.eval {n : Nat} {D : List Deferred} {E : Env} {a : Act} (h : Is n D E a) : a.eval = ev E := by
  funext x
  cases x with
  | tmp t => exact h.at_ t
  | _ => rfl

theorem Is.put {n : Nat} {D : List Deferred} {E : Env} {a : Act} {d : Nat} {v : Value} (h : Is n D E a) (hd : Nat.blt d n = true) :
    Is n D (upd E d v) (a.put (some d) v) := by
  have hd' : d < n := by simpa [Nat.blt_eq] using hd
  refine ⟨by simpa [Act.put] using h.size, by simpa [Act.put] using h.defs, fun t => ?_⟩
  have h3 := h.at_ t
  have hs := h.size
  simp only [Act.put, upd, Array.getD_eq_getD_getElem?] at h3 ⊢
  cases ht : Nat.beq t d with
  | true =>
    have := Nat.eq_of_beq_eq_true ht
    subst this
    simp [hs, hd']
  | false =>
    have hne : d ≠ t := by
      intro e
      subst e
      simp [Nat.beq_refl] at ht
    simp [Array.getElem?_setIfInBounds_ne hne, h3]

theorem Is.init (args : List Value) (n : Nat) (h : Nat.ble args.length n = true) :
    Is n [] (argE args) { tmps := args.toArray ++ Array.replicate (n - args.toArray.size) undef, defers := [] } := by
  have h' : args.length ≤ n := Nat.le_of_ble_eq_true h
  refine ⟨by simp; omega, rfl, fun t => ?_⟩
  have key : ∀ (l : List Value) (m t : Nat), ((l ++ List.replicate m undef)[t]?).getD undef = argE l t := by
    intro l
    induction l with
    | nil =>
      intro m t
      simp only [argE, List.nil_append, List.getElem?_replicate]
      split <;> rfl
    | cons v r ih =>
      intro m t
      cases t with
      | zero => simp [argE]
      | succ t => simpa [argE] using ih m t
  have e : args.toArray ++ Array.replicate (n - args.toArray.size) undef = (args ++ List.replicate (n - args.toArray.size) undef).toArray := by simp
  show (args.toArray ++ Array.replicate (n - args.toArray.size) undef).getD t undef = _
  rw [e, Array.getD_eq_getD_getElem?, List.getElem?_toArray]
  exact key args _ t

/-! ## what is asked of code -/

def CW (P : Program) (n : Nat) (D : List Deferred) (c : Code) (Q : Exit → Env → World → Prop) (E : Env) (w : World) : Prop :=
  ∀ a, Is n D E a → c.wp P (fun e a' w' => ∃ E', Is n D E' a' ∧ Q e E' w') a w

def RW (P : Program) (n : Nat) (D : List Deferred) (ops : Array Oper) (l : List Oper) (K : Env → World → Prop) (E : Env) (w : World) : Prop :=
  ∀ a, Is n D E a → wpList P ops (fun e a' w' => ∃ E', Is n D E' a' ∧ e = .normal ∧ K E' w') l a w

abbrev thenQ (K : Env → World → Prop) (Q : Exit → Env → World → Prop) : Exit → Env → World → Prop
  | .normal, E, w => K E w
  | e, E, w => Q e E w

abbrev blockQ (id : Nat) (Q : Exit → Env → World → Prop) : Exit → Env → World → Prop
  | .exit id', E, w => bif Nat.beq id' id then Q .normal E w else Q (.exit id') E w
  | e, E, w => Q e E w

section
variable {P : Program} {n : Nat} {D : List Deferred} {Q : Exit → Env → World → Prop} {E : Env} {w : World}

theorem CW.mono {c : Code} {Q' : Exit → Env → World → Prop} (hq : ∀ e E w, Q e E w → Q' e E w) (h : CW P n D c Q E w) : CW P n D c Q' E w :=
  fun a ha => Code.wp_mono (fun e a' w' ⟨E', h1, h2⟩ => ⟨E', h1, hq e E' w' h2⟩) (h a ha)

theorem cw_skip (h : Q .normal E w) : CW P n D .skip Q E w := fun a ha => wp_skip ⟨E, ha, h⟩
theorem cw_exit {id : Nat} (h : Q (.exit id) E w) : CW P n D (.exit id) Q E w := fun a ha => wp_exit ⟨E, ha, h⟩
theorem cw_ret (h : Q .ret E w) : CW P n D .ret Q E w := fun a ha => wp_ret ⟨E, ha, h⟩

theorem cw_seq {x y : Code} (h : ∀ K : Env → World → Prop, (∀ E w, CW P n D y Q E w → K E w) → CW P n D x (thenQ K Q) E w) : CW P n D (.seq x y) Q E w := by
  intro a ha
  refine wp_seq (Code.wp_mono ?_ (h _ (fun _ _ h => h) a ha))
  rintro e a' w' ⟨E', h1, h2⟩
  cases e with
  | normal => exact h2 a' h1
  | _ => exact ⟨E', h1, h2⟩

theorem cw_block {id : Nat} {c : Code} (h : CW P n D c (blockQ id Q) E w) : CW P n D (.block id c) Q E w := by
  intro a ha
  refine wp_block (Code.wp_mono ?_ (h a ha))
  rintro e a' w' ⟨E', h1, h2⟩
  cases e with
  | exit id' =>
    simp only [Exit.inBlock]
    simp only [blockQ] at h2
    by_cases hid : id' = id
    · subst hid
      rw [if_pos rfl]
      simp only [Nat.beq_refl, cond_true] at h2
      exact ⟨E', h1, h2⟩
    · rw [if_neg hid]
      have : Nat.beq id' id = false := by
        cases hb : Nat.beq id' id with
        | true => exact absurd (Nat.eq_of_beq_eq_true hb) hid
        | false => rfl
      simp only [this, cond_false] at h2
      exact ⟨E', h1, h2⟩
  | _ => exact ⟨E', h1, h2⟩

theorem cw_cond {c : Operand} {x y : Code} {t : Bool} (hc : ev E c = .bool t) (ht : t = true → CW P n D x Q E w) (hf : t = false → CW P n D y Q E w) :
    CW P n D (.cond c x y) Q E w := by
  intro a ha
  refine wp_cond_split (t := t) (by rw [ha.eval]; exact hc) (fun h => ht h a ha) (fun h => hf h a ha)

/-- A loop: what its variables hold at the head is told by 'st', for a state 's' of which 'I' holds; 'μ' goes down. -/
theorem cw_loop {σ : Type} (st : σ → List (Nat × Value)) (I : σ → World → Prop) (μ : σ → Nat) (s0 : σ) {c : Code} (h0 : Agree E (st s0)) (hI : I s0 w)
    (round : ∀ s J w, I s w → ∀ K : Env → World → Prop, (∀ E' w' s', Agree E' (st s') → I s' w' → μ s' < μ s → K E' w') → CW P n D c (thenQ K Q) (over J (st s)) w) :
    CW P n D (.loop c) Q E w := by
  intro a ha b k cs
  have key : ∀ m s E a w, μ s = m → Is n D E a → Agree E (st s) → I s w →
      ∃ e a' w', (∃ E', Is n D E' a' ∧ Q e E' w') ∧ Arrives P (lone (b.at a (.code c :: .inLoop c :: k)) cs w) b k cs e a' w' := by
    intro m
    induction m using Nat.strongRecOn with
    | _ m ih =>
      intro s E a w hm ha hE hI
      have hr := round s E w hI (fun E' w' => ∃ s', Agree E' (st s') ∧ I s' w' ∧ μ s' < μ s) (fun E' w' s' h1 h2 h3 => ⟨s', h1, h2, h3⟩)
      rw [over_self hE] at hr
      obtain ⟨e, a1, w1, ⟨E1, h1, h2⟩, harr⟩ := hr a ha b (.inLoop c :: k) cs
      cases e with
      | normal =>
        obtain ⟨s', hA', hI', hlt⟩ := h2
        obtain ⟨e2, a2, w2, hq2, harr2⟩ := ih (μ s') (hm ▸ hlt) s' E1 a1 w1 rfl h1 hA' hI'
        exact ⟨e2, a2, w2, hq2, .of_steps (Steps.trans harr (.one step_inLoop)) harr2⟩
      | exit id => exact ⟨_, a1, w1, ⟨E1, h1, h2⟩, .pass (x := .inLoop c) rfl (fun _ _ => .inl (by simp)) harr⟩
      | goto l => exact ⟨_, a1, w1, ⟨E1, h1, h2⟩, .pass (x := .inLoop c) rfl (fun _ _ => .inl (by simp)) harr⟩
      | ret => exact ⟨_, a1, w1, ⟨E1, h1, h2⟩, .pass (x := .inLoop c) rfl (fun _ _ => .inl (by simp)) harr⟩
      | panic ch => exact ⟨_, a1, w1, ⟨E1, h1, h2⟩, .pass (x := .inLoop c) rfl (fun _ _ => .inl (by simp)) harr⟩
      | outgrown => exact ⟨_, a1, w1, ⟨E1, h1, h2⟩, .pass (x := .inLoop c) rfl (fun _ _ => .inl (by simp)) harr⟩
  obtain ⟨e, a', w', hq, harr⟩ := key _ s0 E a w rfl ha h0 hI
  exact ⟨e, a', w', hq, .of_steps (.one step_loop) harr⟩

/-- Where ways meet again: behind 'x' the frame holds 'st s', for an 's' of which 'M' holds. -/
theorem cw_cut {σ : Type} (st : σ → List (Nat × Value)) (M : σ → World → Prop) {x y : Code}
    (h1 : ∀ K : Env → World → Prop, (∀ E' w' s, Agree E' (st s) → M s w' → K E' w') → CW P n D x (thenQ K Q) E w)
    (h2 : ∀ s J w', M s w' → CW P n D y Q (over J (st s)) w') : CW P n D (.seq x y) Q E w := by
  refine cw_seq fun K hK => h1 K fun E' w' s hA hM => hK _ _ ?_
  have := h2 s E' w' hM
  rwa [over_self hA] at this

/-! ## one operation -/

/-- The operation 'o', from this frame and world, comes to 'K'. -/
def OpW (P : Program) (n : Nat) (D : List Deferred) (ops : Array Oper) (o : Oper) (K : Env → World → Prop) (E : Env) (w : World) : Prop :=
  ∀ a, Is n D E a → ∀ (KK : Act → World → Prop) (QQ : Exit → Act → World → Prop), (∀ a' w' E', Is n D E' a' → K E' w' → KK a' w') →
    if Region.wanted o (yielded ops a.tmps) = true then o.wp P a w KK QQ else KK (a.put o.dst undef) w

def Wanted (n : Nat) (ops : Array Oper) (E : Env) (o : Oper) (b : Bool) : Prop :=
  ∀ D a, Is n D E a → Region.wanted o (yielded ops a.tmps) = b

theorem w0 {ops : Array Oper} {o : Oper} (hg : o.guard = none) : Wanted n ops E o true := fun _ _ _ => by simp [Region.wanted, hg]
theorem w1 {ops : Array Oper} {o : Oper} {j dj : Nat} {b t : Bool} (hg : o.guard = some (j, b)) (hj : (ops[j]?).bind (·.dst) = some dj) (hd : Nat.blt dj n = true)
    (hv : E dj = .bool t) : Wanted n ops E o (t == b) := by
  intro D a ha
  have hd' : dj < n := by simpa [Nat.blt_eq] using hd
  have h1 : a.tmps[dj]? = some (.bool t) := by
    have h2 := ha.at_ dj
    rw [hv, Array.getD_eq_getD_getElem?] at h2
    have hlt : dj < a.tmps.size := by rw [ha.size]; exact hd'
    simp only [Array.getElem?_eq_getElem hlt, Option.getD_some] at h2 ⊢
    rw [h2]
  have hy : yielded ops a.tmps j = some t := by
    unfold yielded
    rw [hj]
    simp only [Option.bind_some, h1]
  simp only [Region.wanted, hg, hy]
  cases t <;> cases b <;> rfl

theorem w1y {ops : Array Oper} {o : Oper} {j dj : Nat} {b : Bool} (hg : o.guard = some (j, b)) (hj : (ops[j]?).bind (·.dst) = some dj) (hd : Nat.blt dj n = true) (hv : E dj = .bool b) : Wanted n ops E o true := by
  have := w1 hg hj hd hv
  simpa using this
theorem w1n1 {ops : Array Oper} {o : Oper} {j dj : Nat} (hg : o.guard = some (j, true)) (hj : (ops[j]?).bind (·.dst) = some dj) (hd : Nat.blt dj n = true) (hv : E dj = .bool false) : Wanted n ops E o false := w1 hg hj hd hv
theorem w1n2 {ops : Array Oper} {o : Oper} {j dj : Nat} (hg : o.guard = some (j, false)) (hj : (ops[j]?).bind (·.dst) = some dj) (hd : Nat.blt dj n = true) (hv : E dj = .bool true) : Wanted n ops E o false := w1 hg hj hd hv

variable {ops : Array Oper} {o : Oper} {K : Env → World → Prop}

theorem op_pass {d : Nat} (hw : Wanted n ops E o false) (hd : o.dst = some d) (hn : Nat.blt d n = true) (h : K (upd E d undef) w) : OpW P n D ops o K E w := by
  intro a ha KK QQ hK
  rw [if_neg (by rw [hw D a ha]; simp), hd]
  exact hK _ _ _ (ha.put hn) h

theorem op_pass' (hw : Wanted n ops E o false) (hd : o.dst = none) (h : K E w) : OpW P n D ops o K E w := by
  intro a ha KK QQ hK
  rw [if_neg (by rw [hw D a ha]; simp), hd]
  exact hK _ _ _ ha h

theorem op_val {d : Nat} {v : Value} {w' : World} (hw : Wanted n ops E o true) (hd : o.dst = some d) (hn : Nat.blt d n = true)
    (hr : (execOp (ev E) o).run P w = .ok (.value v) w') (h : K (upd E d v) w') : OpW P n D ops o K E w := by
  intro a ha KK QQ hK
  rw [if_pos (hw D a ha)]
  unfold Oper.wp
  rw [ha.eval, hr, Oper.upon_value, hd]
  exact hK _ _ _ (ha.put hn) h

theorem op_skip {w' : World} (hw : Wanted n ops E o true) (hd : o.dst = none)
    (hr : (execOp (ev E) o).run P w = .ok .skip w') (h : K E w') : OpW P n D ops o K E w := by
  intro a ha KK QQ hK
  rw [if_pos (hw D a ha)]
  unfold Oper.wp
  rw [ha.eval, hr, Oper.upon_skip, hd]
  exact hK _ _ _ ha h

/-- What a call comes to: it returns a value, of which 'S' holds. -/
def Fn (P : Program) (f : FuncId) (args : List Value) (w : World) (S : Value → World → Prop) : Prop :=
  Calls P f args.toArray w fun e w' => ∃ v, e = .returned v ∧ S v w'

theorem Fn.mono {f : FuncId} {args : List Value} {S S' : Value → World → Prop} (h : Fn P f args w S) (hs : ∀ v w', S v w' → S' v w') : Fn P f args w S' :=
  Calls.mono h fun _ _ ⟨v, he, hv⟩ => ⟨v, he, hs _ _ hv⟩

theorem op_call {d : Nat} {f : FuncId} {args : List Value} {S : Value → World → Prop} (hw : Wanted n ops E o true) (hd : o.dst = some d) (hn : Nat.blt d n = true)
    (hr : (execOp (ev E) o).run P w = .ok (.enter f args.toArray) w) (hc : Fn P f args w S) (h : ∀ v w', S v w' → K (upd E d v) w') : OpW P n D ops o K E w := by
  intro a ha KK QQ hK
  rw [if_pos (hw D a ha)]
  unfold Oper.wp
  rw [ha.eval, hr, Oper.upon_enter, hd]
  exact Calls.mono hc fun e w' ⟨v, he, hv⟩ => by
    subst he
    exact hK _ _ _ (ha.put hn) (h v w' hv)

theorem op_call0 {f : FuncId} {args : List Value} {S : Value → World → Prop} (hw : Wanted n ops E o true) (hd : o.dst = none)
    (hr : (execOp (ev E) o).run P w = .ok (.enter f args.toArray) w) (hc : Fn P f args w S) (h : ∀ v w', S v w' → K E w') : OpW P n D ops o K E w := by
  intro a ha KK QQ hK
  rw [if_pos (hw D a ha)]
  unfold Oper.wp
  rw [ha.eval, hr, Oper.upon_enter, hd]
  exact Calls.mono hc fun e w' ⟨v, he, hv⟩ => by
    subst he
    exact hK _ _ _ ha (h v w' hv)

/-! ## a region whose order is the text's -/

theorem rw_nil (h : K E w) : RW P n D ops [] K E w := fun _ ha => ⟨E, ha, rfl, h⟩
theorem rw_cons {rest : List Oper} (h : OpW P n D ops o (RW P n D ops rest K) E w) : RW P n D ops (o :: rest) K E w := by
  intro a ha
  have := h a ha (wpList P ops (fun e a' w' => ∃ E', Is n D E' a' ∧ e = .normal ∧ K E' w') rest) (fun e a' w' => ∃ E', Is n D E' a' ∧ e = .normal ∧ K E' w')
    (fun a' w' E' h1 h2 => h2 a' h1)
  unfold wpList
  split
  · rename_i hw
    rw [if_pos hw] at this
    exact .inl this
  · rename_i hw
    rw [if_neg hw] at this
    exact this

theorem cw_region {id : Nat} {l : List Oper} (h : ∀ K : Env → World → Prop, (∀ E w, Q .normal E w → K E w) → RW P n D l.toArray l K E w) :
    CW P n D (.region id l.toArray false) Q E w := by
  intro a ha
  refine Code.wp_mono ?_ (wp_region_lit (h _ (fun _ _ h => h) a ha))
  rintro e a' w' ⟨E', h1, rfl, h2⟩
  exact ⟨E', h1, h2⟩

/-! ## functions -/

/-- What is handed back: the slots of the results, read at the end. -/
def ResIs (P : Program) (rs : Array ResultVar) (E : Env) (w : World) (v : Value) : Prop :=
  ∀ (fn : Func) (tmps : Array Value), fn.results = rs → (∀ t, tmps.getD t undef = E t) → (results fn tmps).run P w = .ok v w

theorem res0 : ResIs P #[] E w (.tuple #[]) := fun fn tmps h _ => by simp [results, h]
theorem res1 {t : Nat} {v : Value} (hv : E t = v) : ResIs P #[.tmp t] E w v := fun fn tmps h ht => by
  subst hv
  simpa [ht t] using results_tmp h tmps P w
theorem res2 {t u : Nat} {x y : Value} (hx : E t = x) (hy : E u = y) : ResIs P #[.tmp t, .tmp u] E w (.tuple #[x, y]) := fun fn tmps h ht => by
  subst hx hy
  have := results_tmp2 h tmps P w
  rwa [ht t, ht u] at this
theorem res3 {t u s : Nat} {x y z : Value} (hx : E t = x) (hy : E u = y) (hz : E s = z) : ResIs P #[.tmp t, .tmp u, .tmp s] E w (.tuple #[x, y, z]) := fun fn tmps h ht => by
  subst hx hy hz
  simp only [← ht]
  simp [results, h]
theorem res4 {t u s r : Nat} {x y z q : Value} (hx : E t = x) (hy : E u = y) (hz : E s = z) (hq : E r = q) : ResIs P #[.tmp t, .tmp u, .tmp s, .tmp r] E w (.tuple #[x, y, z, q]) := fun fn tmps h ht => by
  subst hx hy hz hq
  simp only [← ht]
  simp [results, h]

def FQ (P : Program) (rs : Array ResultVar) (S : Value → World → Prop) : Exit → Env → World → Prop
  | .normal, E, w => ∃ v, ResIs P rs E w v ∧ S v w
  | .ret, E, w => ∃ v, ResIs P rs E w v ∧ S v w
  | _, _, _ => False

theorem fn_of {f : FuncId} {fn : Func} {c : Code} {rs : Array ResultVar} {args : List Value} {S : Value → World → Prop}
    (hf : P.funcs[f]? = some fn) (hb : fn.body = some c) (hn : fn.ntmps = n) (hrs : fn.results = rs) (hl : Nat.ble args.length n = true)
    (h : CW P n [] c (FQ P rs S) (argE args) w) : Fn P f args w S := by
  refine calls_of_wp hf hb ?_
  subst hn
  refine Code.wp_mono ?_ (h _ (Is.init args fn.ntmps hl))
  rintro e a' w' ⟨E', h1, h2⟩
  cases e with
  | normal => obtain ⟨v, hv, hs⟩ := h2; exact ⟨h1.defs, v, hv fn _ hrs h1.at_, v, rfl, hs⟩
  | ret => obtain ⟨v, hv, hs⟩ := h2; exact ⟨h1.defs, v, hv fn _ hrs h1.at_, v, rfl, hs⟩
  | _ => exact h2.elim

end
end Go.Proofs.Ytdnncgapbjnfoaa

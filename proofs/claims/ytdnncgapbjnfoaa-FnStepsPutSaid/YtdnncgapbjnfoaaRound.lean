/-
  The walks' logic inside a fence: in the round of a range over a function, and in the iterator that calls it. No conditions; proved from the library's own laws.
-/
import Derived.Test.YtdnncgapbjnfoaaKinds
import Derived.RangeFuncNested
import Derived.RangeFuncBound
import Derived.RangeFuncCalls
import Derived.RangeFuncLeaves
import Derived.TacticsIn
namespace Go.Proofs.Ytdnncgapbjnfoaa
open Go Go.RowKit
set_option linter.unusedVariables false

/-- no bounds; in a round or not -/
def FR (ro : Option Nat) : Fence := { Fence.wide with round := ro }
theorem fr_room (ro : Option Nat) (n : Nat) : (FR ro).room n := fun d h => by simp [FR, Fence.wide] at h
theorem fr_none : FR none = Fence.wide := rfl
theorem fr_some (l : Nat) : FR (some l) = Fence.wide.inRound l := rfl

def CR (ro : Option Nat) (P : Program) (n : Nat) (D : List Deferred) (c : Code) (Q : Exit → Env → World → Prop) (E : Env) (w : World) : Prop :=
  ∀ a, Is n D E a → c.wpIn (FR ro) 0 P (fun e a' w' => ∃ E', Is n D E' a' ∧ Q e E' w') a w
def RR (ro : Option Nat) (P : Program) (n : Nat) (D : List Deferred) (ops : Array Oper) (l : List Oper) (K : Env → World → Prop) (E : Env) (w : World) : Prop :=
  ∀ a, Is n D E a → wpListIn (FR ro) 0 P ops (fun e a' w' => ∃ E', Is n D E' a' ∧ e = .normal ∧ K E' w') l a w
def isDef (o : Oper) : Bool := match o.op with
  | .defer _ => true
  | _ => false

section
variable {ro : Option Nat} {P : Program} {n : Nat} {D : List Deferred} {Q : Exit → Env → World → Prop} {E : Env} {w : World} {ops : Array Oper} {o : Oper} {K : Env → World → Prop}

theorem CR.mono {c : Code} {Q' : Exit → Env → World → Prop} (h : CR ro P n D c Q E w) (hq : ∀ e E w, Q e E w → Q' e E w) : CR ro P n D c Q' E w :=
  fun a ha => wpIn_mono (h a ha) (fun e a' w' ⟨E', h1, h2⟩ => ⟨E', h1, hq e E' w' h2⟩)
theorem cr_skip (h : Q .normal E w) : CR ro P n D .skip Q E w := fun a ha => wpIn_skip ⟨E, ha, h⟩
theorem cr_exit {id : Nat} (h : Q (.exit id) E w) : CR ro P n D (.exit id) Q E w := fun a ha => wpIn_exit ⟨E, ha, h⟩
theorem cr_ret (h : Q .ret E w) : CR ro P n D .ret Q E w := fun a ha => wpIn_ret ⟨E, ha, h⟩
theorem cr_seq {x y : Code} (h : ∀ K : Env → World → Prop, (∀ E w, CR ro P n D y Q E w → K E w) → CR ro P n D x (thenQ K Q) E w) : CR ro P n D (.seq x y) Q E w := by
  intro a ha
  refine wpIn_seq (wpIn_mono (h _ (fun _ _ h => h) a ha) ?_)
  rintro e a' w' ⟨E', h1, h2⟩
  cases e with
  | normal => exact h2 a' h1
  | _ => exact ⟨E', h1, h2⟩
theorem cr_block {id : Nat} {c : Code} (h : CR ro P n D c (blockQ id Q) E w) : CR ro P n D (.block id c) Q E w := by
  intro a ha
  refine wpIn_block (wpIn_mono (h a ha) ?_)
  rintro e a' w' ⟨E', h1, h2⟩
  cases e with
  | exit id' =>
    simp only [Exit.inBlock]
    simp only [blockQ] at h2
    by_cases hid : id' = id
    · subst hid
      rw [if_pos rfl]
      simp only [Nat.beq_refl, cond_true] at h2
      exact ⟨E', h1, h2⟩
    · rw [if_neg hid]
      have : Nat.beq id' id = false := by
        cases hb : Nat.beq id' id with
        | true => exact absurd (Nat.eq_of_beq_eq_true hb) hid
        | false => rfl
      simp only [this, cond_false] at h2
      exact ⟨E', h1, h2⟩
  | _ => exact ⟨E', h1, h2⟩
theorem cr_cond {c : Operand} {x y : Code} {t : Bool} (hc : ev E c = .bool t) (ht : t = true → CR ro P n D x Q E w) (hf : t = false → CR ro P n D y Q E w) : CR ro P n D (.cond c x y) Q E w := by
  intro a ha
  exact wpIn_cond_split (t := t) (by rw [ha.eval]; exact hc) (fun h => ht h a ha) (fun h => hf h a ha)
theorem cr_loop {σ : Type} (st : σ → List (Nat × Value)) (I : σ → World → Prop) (μ : σ → Nat) (s0 : σ) {c : Code} (h0 : Agree E (st s0)) (hI : I s0 w)
    (round : ∀ s J w, I s w → ∀ K : Env → World → Prop, (∀ E' w' s', Agree E' (st s') → I s' w' → μ s' < μ s → K E' w') → CR ro P n D c (thenQ K Q) (over J (st s)) w) :
    CR ro P n D (.loop c) Q E w := by
  intro a ha b k cs hro hb hr
  have key : ∀ m s E a w, μ s = m → Is n D E a → Agree E (st s) → I s w →
      ∃ e a' w', (∃ E', Is n D E' a' ∧ Q e E' w') ∧ ArrivesIn (Machine.fenced P (FR ro)) P (lone (b.atR a (.code c :: .inLoop c :: k)) cs w) b k cs e a' w' := by
    intro m
    induction m using Nat.strongRecOn with
    | _ m ih =>
      intro s E a w hm ha hE hI
      have hrd := round s E w hI (fun E' w' => ∃ s', Agree E' (st s') ∧ I s' w' ∧ μ s' < μ s) (fun E' w' s' h1 h2 h3 => ⟨s', h1, h2, h3⟩)
      rw [over_self hE] at hrd
      obtain ⟨e, a1, w1, ⟨E1, h1, h2⟩, harr⟩ := hrd a ha b (.inLoop c :: k) cs hro hb hr
      cases e with
      | normal =>
        obtain ⟨s', hA', hI', hlt⟩ := h2
        obtain ⟨e2, a2, w2, hq2, harr2⟩ := ih (μ s') (hm ▸ hlt) s' E1 a1 w1 rfl h1 hA' hI'
        exact ⟨e2, a2, w2, hq2, .of_steps (StepsIn.trans harr (.one (fenced_calm hb hr rfl) stepR_inLoop)) harr2⟩
      | exit id => exact ⟨_, a1, w1, ⟨E1, h1, h2⟩, .pass (x := .inLoop c) rfl (fun _ _ => .inl (by simp)) harr⟩
      | goto l => exact ⟨_, a1, w1, ⟨E1, h1, h2⟩, .pass (x := .inLoop c) rfl (fun _ _ => .inl (by simp)) harr⟩
      | ret => exact ⟨_, a1, w1, ⟨E1, h1, h2⟩, .pass (x := .inLoop c) rfl (fun _ _ => .inl (by simp)) harr⟩
      | panic ch => exact ⟨_, a1, w1, ⟨E1, h1, h2⟩, .pass (x := .inLoop c) rfl (fun _ _ => .inl (by simp)) harr⟩
      | outgrown => exact ⟨_, a1, w1, ⟨E1, h1, h2⟩, .pass (x := .inLoop c) rfl (fun _ _ => .inl (by simp)) harr⟩
  obtain ⟨e, a', w', hq, harr⟩ := key _ s0 E a w rfl ha h0 hI
  exact ⟨e, a', w', hq, .of_steps (.one (fenced_calm hb hr rfl) stepR_loop) harr⟩

theorem upon_in {a : Act} {KK : Act → World → Prop} {QQ : Exit → Act → World → Prop} (r : Result Next) (h : o.upon P a KK QQ r) : o.uponIn (FR ro) 0 P a KK QQ r := by
  have hn : ∀ m, (FR ro).depth.isSome = true → 1 ≤ m := fun m h => by simp [FR, Fence.wide] at h
  cases r with
  | ok x w' =>
    cases x with
    | value v => exact h
    | skip => exact h
    | defer d => exact h
    | enter f args => exact ⟨hn _, callsIn_wide.2 h⟩
    | row row args => exact ⟨hn _, fun c cs _ => let ⟨v, w2, r, s⟩ := h c cs; ⟨v, w2, r, stepsIn_wide.2 s⟩⟩
    | _ => exact h.elim
  | halt x w' =>
    cases x with
    | panic v => exact h
    | _ => exact h.elim
theorem rr_nil (h : K E w) : RR ro P n D ops [] K E w := fun _ ha => ⟨E, ha, rfl, h⟩
theorem rr_cons {rest : List Oper} (hd : isDef o = false) (h : OpW P n D ops o (RR ro P n D ops rest K) E w) : RR ro P n D ops (o :: rest) K E w := by
  intro a ha
  have := h a ha (wpListIn (FR ro) 0 P ops (fun e a' w' => ∃ E', Is n D E' a' ∧ e = .normal ∧ K E' w') rest) (fun e a' w' => ∃ E', Is n D E' a' ∧ e = .normal ∧ K E' w')
    (fun a' w' E' h1 h2 => h2 a' h1)
  unfold wpListIn
  split
  · rename_i hw
    rw [if_pos hw] at this
    refine ⟨fun _ _ => trivial, ?_⟩
    rw [Oper.semAt_eq _ _ _ (fun c hc => by unfold isDef at hd; rw [hc] at hd; cases hd)]
    exact upon_in _ this
  · rename_i hw
    rw [if_neg hw] at this
    exact ⟨fun _ _ => trivial, this⟩
theorem rr_split {b : Bool} {l : List Oper} (d : Nat) (hb : E d = .bool b) (ht : b = true → RR ro P n D ops l K (upd E d (.bool true)) w) (hf : b = false → RR ro P n D ops l K (upd E d (.bool false)) w) : RR ro P n D ops l K E w := by
  have key : ∀ X : Env → Prop, (b = true → X (upd E d (.bool true))) → (b = false → X (upd E d (.bool false))) → X E := fun X h1 h2 => split_slot (X := X) d hb h1 h2
  exact key (fun E => RR ro P n D ops l K E w) ht hf
theorem cr_region {id : Nat} {l : List Oper} (h : ∀ K : Env → World → Prop, (∀ E w, Q .normal E w → K E w) → RR ro P n D l.toArray l K E w) : CR ro P n D (.region id l.toArray false) Q E w := by
  intro a ha
  refine wpIn_mono (wpIn_region_lit (h _ (fun _ _ h => h) a ha)) ?_
  rintro e a' w' ⟨E', h1, rfl, h2⟩
  exact ⟨E', h1, h2⟩
/-- the iterator calls yield -/
theorem rr_yield {rest : List Oper} {d l : Nat} {x : Operand} {xs : Array Operand} {ts : Array TypeId} {vs : List Value} {A B : World → Prop} (hd : o.dst = some d) (hn : Nat.blt d n = true) (hg : o.guard = none)
    (ho : o.op = .call { callee := .value x, args := xs, argTypes := ts }) (hx : ev E x = .func (.yield l) #[] #[]) (hxs : xs.toList.map (ev E) = vs)
    (hy : YieldAt (FR none) 0 P l vs.toArray w fun e W' => (e = .returned (.bool true) ∧ A W') ∨ (e = .returned (.bool false) ∧ B W'))
    (h1 : ∀ W', A W' → RR none P n D ops rest K (upd E d (.bool true)) W') (h2 : ∀ W', B W' → RR none P n D ops rest K (upd E d (.bool false)) W') : RR none P n D ops (o :: rest) K E w := by
  intro a ha
  subst hxs
  unfold wpListIn
  have hw : Region.wanted o (yielded ops a.tmps) = true := by simp [Region.wanted, hg]
  rw [if_pos hw]
  refine ⟨fun _ _ => trivial, ?_⟩
  obtain ⟨fn, tmps, assign, body, hyr, hr⟩ := hy
  have e : xs.map (ev E) = (xs.toList.map (ev E)).toArray := by rw [← Array.toList_map, Array.toArray_toList]
  have hrun : (o.semAt none a.eval).run P w = .ok (.round l fn tmps assign body) w := by
    rw [Oper.semAt_none, ha.eval]
    have hy2 := hyr
    rw [← e] at hy2
    simp [execOp, ho, resolve, invoke, hx, hy2, Deferred.ofValue]
  show o.uponIn (FR none) 0 P a _ _ ((o.semAt none a.eval).run P w)
  rw [hrun]
  refine ⟨fun h => by simp [FR, Fence.wide] at h, RoundIn.mono hr ?_⟩
  rintro e2 W' (⟨rfl, hA⟩ | ⟨rfl, hB⟩)
  · show wpListIn (FR none) 0 P ops _ rest (a.put o.dst (.bool true)) W'
    rw [hd]; exact h1 W' hA _ (ha.put hn)
  · show wpListIn (FR none) 0 P ops _ rest (a.put o.dst (.bool false)) W'
    rw [hd]; exact h2 W' hB _ (ha.put hn)
end
end Go.Proofs.Ytdnncgapbjnfoaa

/-
  A region whose order is drawn, taken in one order of our choosing: an operation whose value is the same in a whole class of worlds may be taken first; what acts is taken where it is the only one that can come. No conditions; proved from the library's own laws on orders.
-/
import Derived.Test.YtdnncgapbjnfoaaLib
namespace Go.Proofs.Ytdnncgapbjnfoaa
open Go Go.RowKit
set_option linter.unusedVariables false

inductive OT where
  | done
  | free (i : Nat) (t : OT)
  | one (i : Nat) (c : Bool) (t : OT)
  | two (i : Nat) (c : Bool) (t : OT) (j : Nat) (d : Bool) (u : OT)

def OT.depth : OT → Nat
  | .done => 0
  | .free _ t => t.depth + 1
  | .one _ _ t => t.depth + 1
  | .two _ _ t _ _ _ => t.depth + 1

def OT.noFree : OT → Bool
  | .done => true
  | .free _ _ => false
  | .one _ _ t => t.noFree
  | .two _ _ t _ _ u => t.noFree && u.noFree

def reaches (md : Region.Mode) (ops : Array Oper) : Nat → Nat → Nat → Bool
  | 0, _, _ => false
  | f + 1, j, i => match ops[j]? with
    | some oj => oj.after.any fun e => Region.binds md e && (e.on == i || reaches md ops f e.on i)
    | none => false

def covers (md : Region.Mode) (ops : Array Oper) (L : Array Bool) (j : Nat) : Bool :=
  (List.range ops.size).all fun k => !(L.getD k false) || reaches md ops ops.size j k

def OT.ok (md : Region.Mode) (ops : Array Oper) : OT → Array Bool → Bool
  | .done, L => (Region.ready md ops L).isEmpty
  | .free i t, L => (Region.ready md ops L).contains i && Region.free md ops L i && t.ok md ops (L.setIfInBounds i true)
  | .one i c t, L => decide (Region.ready md ops L = [i]) && (c || (covers md ops L i && t.noFree)) && t.ok md ops (L.setIfInBounds i true)
  | .two i c t j d u, L => decide (Region.ready md ops L = [i, j]) && (c || (covers md ops L i && t.noFree)) && (d || (covers md ops L j && u.noFree)) &&
      Nat.beq t.depth u.depth && t.ok md ops (L.setIfInBounds i true) && u.ok md ops (L.setIfInBounds j true)

section
variable {P : Program} {ops : Array Oper} {md : Region.Mode} {C : World → Prop} {Q : Exit → Act → World → Prop}

def Closed (md : Region.Mode) (ops : Array Oper) (L : Array Bool) : Prop :=
  ∀ j oj, ops[j]? = some oj → L.getD j false = true → ∀ e ∈ oj.after, Region.binds md e = true → L.getD e.on false = true

theorem listed_of {L : Array Bool} {i : Nat} (h : L.getD i true = false) : L.getD i false = false := by
  rcases Nat.lt_or_ge i L.size with h' | h'
  · simpa [h'] using h
  · simp [Array.getElem?_eq_none h'] at h

theorem Closed.set {L : Array Bool} {i : Nat} (h : Closed md ops L) (hi : i ∈ Region.ready md ops L) : Closed md ops (L.setIfInBounds i true) := by
  obtain ⟨_, oi, hoi, hall⟩ := mem_ready.1 hi
  intro j oj hj hl e he hb
  by_cases hij : i = j
  · subst hij
    have : oj = oi := Option.some.inj (hj.symm.trans hoi)
    subst this
    exact getD_set_true (hall e he hb)
  · rw [getD_set_ne false hij] at hl
    exact getD_set_true (h j oj hj hl e he hb)

theorem reaches_listed {L : Array Bool} (h : Closed md ops L) {i : Nat} : ∀ (f j : Nat) (oj : Oper), ops[j]? = some oj →
    (∀ e ∈ oj.after, Region.binds md e = true → L.getD e.on false = true) → reaches md ops f j i = true → L.getD i false = true := by
  intro f
  induction f with
  | zero => intro j oj _ _ hr; simp [reaches] at hr
  | succ f ih =>
    intro j oj hj hall hr
    simp only [reaches, hj] at hr
    obtain ⟨e, he, hb⟩ := Array.any_eq_true'.1 hr
    simp only [Bool.and_eq_true, Bool.or_eq_true, beq_iff_eq] at hb
    rcases hb.2 with hb2 | hb2
    · rw [← hb2]; exact hall e he hb.1
    · cases ho : ops[e.on]? with
      | none => cases f <;> simp [reaches, ho] at hb2
      | some o' => exact ih e.on o' ho (h e.on o' ho (hall e he hb.1)) hb2

/-- In state 'a', in every world of the class, the operation leaves the value 'v', and the world as it was. -/
def YV (P : Program) (ops : Array Oper) (C : World → Prop) (o : Oper) (v : Value) (a : Act) : Prop :=
  (Region.wanted o (yielded ops a.tmps) = true ∧ ∀ w, C w → (execOp a.eval o).run P w = .ok (.value v) w) ∨
  (Region.wanted o (yielded ops a.tmps) = false ∧ v = undef)

theorem YV.of_same {o : Oper} {v : Value} {a a' : Act} (hy : YV P ops C o v a) (he : execOp a'.eval o = execOp a.eval o)
    (hw : Region.wanted o (yielded ops a'.tmps) = Region.wanted o (yielded ops a.tmps)) : YV P ops C o v a' := by
  unfold YV at *
  rw [he, hw]
  exact hy

theorem YV.op {i : Nat} {o : Oper} {v : Value} {a : Act} {w : World} (hi : ops[i]? = some o) (hy : YV P ops C o v a) (hC : C w)
    {K : Act → World → Prop} (h : K (a.put o.dst v) w) : wpOp P ops Q i K a w := by
  unfold Go.wpOp
  simp only [hi]
  rcases hy with ⟨hw, hv⟩ | ⟨hw, rfl⟩
  · simp only [hw, if_true, Oper.wp, hv w hC, Oper.upon]; exact .inl h
  · simp only [hw, Bool.false_eq_true, if_false]; exact h

theorem yv_put {j : Nat} {oi oj : Oper} {v : Value} (hj : ops[j]? = some oj) (hap : oi.apart ops oj = true)
    (hsi : ∀ cs b, oi.op ≠ .select cs b) (hsj : ∀ cs b, oj.op ≠ .select cs b)
    (hQ : ∀ c a w, ¬ Q (.panic c) a w) {K : Act → World → Prop} {a : Act} {w : World}
    (hy : YV P ops C oi v a) (h : wpOp P ops Q j K (a.put oi.dst v) w) :
    wpOp P ops Q j (fun a' w' => YV P ops C oi v a' ∧ K (a'.put oi.dst v) w') a w := by
  obtain ⟨h1, h2, h3⟩ := Oper.apart_spec hap
  have keep : ∀ (a : Act), YV P ops C oi v a → ∀ u, YV P ops C oi v (a.put oj.dst u) := fun a hy u =>
    hy.of_same (execOp_put oi hsi a oj.dst u h3) (wanted_put oi a oj.dst u h3)
  have keepD : ∀ d, YV P ops C oi v { a with defers := d :: a.defers } := fun d => hy.of_same rfl rfl
  unfold wpOp at *
  simp only [hj] at *
  rw [wanted_put oj a oi.dst v h1] at h
  split
  · rename_i hw
    simp only [hw, if_true] at h
    rcases h with h | ⟨hasks, hlets⟩
    case inr => exact .inr ⟨by unfold Oper.asks at *; rw [execOp_put oj hsj a oi.dst v h1] at hasks; exact hasks, hlets⟩
    refine .inl ?_
    unfold Oper.wp at *
    rw [execOp_put oj hsj a oi.dst v h1] at h
    generalize (execOp a.eval oj).run P w = r at *
    cases r with
    | ok n w' =>
      cases n <;> simp only [Oper.upon] at h ⊢
      case value u => exact ⟨keep a hy u, by rw [← Act.put_comm a v u h2]; exact h⟩
      case skip => exact ⟨keep a hy _, by rw [← Act.put_comm a v undef h2]; exact h⟩
      case defer d =>
        refine ⟨keep _ (keepD d) _, ?_⟩
        rw [← Act.put_comm _ v undef h2, ← Act.put_defers]
        exact h
      case enter f args =>
        refine Calls.mono h fun e w'' he => ?_
        cases e with
        | returned u => exact ⟨keep a hy u, by rw [← Act.put_comm a v u h2]; exact he⟩
        | panicked c => exact (hQ _ _ _ he).elim
        | outgrown => exact he
      case row row args => exact Rows.mono h fun u w'' he => ⟨keep a hy u, by rw [← Act.put_comm a v u h2]; exact he⟩
    | halt x w' =>
      cases x <;> simp only [Oper.upon] at h ⊢
      case panic u => exact (hQ _ _ _ h).elim
  · rename_i hw
    simp only [hw] at h
    exact ⟨keep a hy _, by rw [← Act.put_comm a v undef h2]; exact h⟩

/-- Whatever order is picked; behind an operation that does not wait for all that has come the class holds. -/
def wpAC (P : Program) (md : Region.Mode) (ops : Array Oper) (C : World → Prop) (Q : Exit → Act → World → Prop) : Nat → Array Bool → Act → World → Prop
  | 0, L, a, w => Region.ready md ops L = [] ∧ Q .normal a w
  | f + 1, L, a, w => (Region.ready md ops L = [] → Q .normal a w) ∧
    ∀ i ∈ Region.ready md ops L, wpOp P ops Q i (fun a' w' => (covers md ops L i = false → C w') ∧ wpAC P md ops C Q f (L.setIfInBounds i true) a' w') a w

theorem wpAny_of_AC : ∀ (f : Nat) (L : Array Bool) (a : Act) (w : World), wpAC P md ops C Q f L a w → wpAny P md ops Q f L a w
  | 0, _, _, _, h => h
  | f + 1, L, a, w, h => ⟨h.1, fun i hi => wpOp_mono (fun a' w' h' => wpAny_of_AC f _ a' w' h'.2) (h.2 i hi)⟩

theorem covers_false {L : Array Bool} {i j : Nat} (h : Closed md ops L) (hi : i ∈ Region.ready md ops L) (hj : j ∈ Region.ready md ops L) (hji : j ≠ i) (his : i < ops.size) :
    covers md ops (L.setIfInBounds i true) j = false := by
  cases hc : covers md ops (L.setIfInBounds i true) j with
  | false => rfl
  | true =>
    exfalso
    obtain ⟨hun, oj, hoj, hall⟩ := mem_ready.1 hj
    have hiun := (mem_ready.1 hi).1
    have h1 := List.all_eq_true.1 hc i (List.mem_range.2 his)
    have hlt : i < L.size := by
      rcases Nat.lt_or_ge i L.size with h' | h'
      · exact h'
      · simp [Array.getElem?_eq_none h'] at hiun
    have hself : (L.setIfInBounds i true).getD i false = true := by simp [hlt]
    rw [hself] at h1
    simp only [Bool.not_true, Bool.false_or] at h1
    have := reaches_listed h _ j oj hoj hall h1
    rw [listed_of hiun] at this
    cases this

theorem covers_mono {L : Array Bool} {i j : Nat} (h : covers md ops L j = false) : covers md ops (L.setIfInBounds i true) j = false := by
  cases hc : covers md ops (L.setIfInBounds i true) j with
  | false => rfl
  | true =>
    rw [← h]
    symm
    refine List.all_eq_true.2 fun k hk => ?_
    have h1 := List.all_eq_true.1 hc k hk
    simp only [Bool.or_eq_true, Bool.not_eq_true'] at h1 ⊢
    rcases h1 with h1 | h1
    · refine .inl ?_
      cases hl : L.getD k false with
      | false => rfl
      | true => rw [getD_set_true hl] at h1; cases h1
    · exact .inr h1

theorem ac_first {i : Nat} {oi : Oper} {v : Value} (hi : ops[i]? = some oi) (hsel : ∀ (j : Nat) (o : Oper) cs b, ops[j]? = some o → o.op ≠ .select cs b)
    (hQ : ∀ c a w, ¬ Q (.panic c) a w) :
    ∀ (fuel : Nat) (L : Array Bool) (a : Act) (w : World), Closed md ops L → C w →
      (∀ j oj, ops[j]? = some oj → j ≠ i → L.getD j true = false → (∀ e ∈ oj.after, Region.binds md e = true → e.on ≠ i) → oi.apart ops oj = true) →
      i ∈ Region.ready md ops L → YV P ops C oi v a →
      wpAC P md ops C Q fuel (L.setIfInBounds i true) (a.put oi.dst v) w → wpAC P md ops C Q (fuel + 1) L a w := by
  have his : i < ops.size := (Array.getElem?_eq_some_iff.1 hi).1
  intro fuel
  induction fuel with
  | zero =>
    intro L a w hcl hC _ hr hy H
    refine ⟨fun h => (by rw [h] at hr; cases hr), fun j hj => ?_⟩
    by_cases hji : j = i
    · subst hji; exact hy.op hi hC ⟨fun _ => hC, H⟩
    · have := ready_mono hj hji
      rw [H.1] at this
      cases this
  | succ fuel ih =>
    intro L a w hcl hC hfree hr hy H
    refine ⟨fun h => (by rw [h] at hr; cases hr), fun j hj => ?_⟩
    by_cases hji : j = i
    · subst hji; exact hy.op hi hC ⟨fun _ => hC, H⟩
    · have h1 := H.2 j (ready_mono hj hji)
      obtain ⟨hjun, oj, hoj, hall⟩ := mem_ready.1 hj
      have hnot : ∀ e ∈ oj.after, Region.binds md e = true → e.on ≠ i := fun e he hb heq => by
        have h1 := hall e he hb
        rw [heq, listed_of (mem_ready.1 hr).1] at h1
        cases h1
      have h2 := yv_put hoj (hfree j oj hoj hji hjun hnot) (fun cs b => hsel i oi cs b hi) (fun cs b => hsel j oj cs b hoj) hQ hy h1
      have hfree' : ∀ k ok, ops[k]? = some ok → k ≠ i → (L.setIfInBounds j true).getD k true = false →
          (∀ e ∈ ok.after, Region.binds md e = true → e.on ≠ i) → oi.apart ops ok = true := fun k ok hk hki hun hno => by
        refine hfree k ok hk hki ?_ hno
        by_cases hjk : j = k
        · subst hjk; exact hjun
        · rw [getD_set_ne true hjk] at hun; exact hun
      refine wpOp_mono (fun a' w' h3 => ?_) h2
      obtain ⟨hy', hc', H'⟩ := h3
      have hCw := hc' (covers_false hcl hr hj hji his)
      refine ⟨fun _ => hCw, ih (L.setIfInBounds j true) a' w' (hcl.set hj) hCw hfree' (ready_mono hr (Ne.symm hji)) hy' ?_⟩
      rw [Array.setIfInBounds_comm _ _ hji]
      exact H'

/-- What the tree asks. -/
def wpT (P : Program) (ops : Array Oper) (C : World → Prop) (Q : Exit → Act → World → Prop) : OT → Act → World → Prop
  | .done, a, w => Q .normal a w
  | .free i t, a, w => ∃ o v, ops[i]? = some o ∧ YV P ops C o v a ∧ wpT P ops C Q t (a.put o.dst v) w
  | .one i c t, a, w => wpOp P ops Q i (fun a' w' => (c = true → C w') ∧ wpT P ops C Q t a' w') a w
  | .two i c t j d u, a, w => wpOp P ops Q i (fun a' w' => (c = true → C w') ∧ wpT P ops C Q t a' w') a w ∧ wpOp P ops Q j (fun a' w' => (d = true → C w') ∧ wpT P ops C Q u a' w') a w

theorem ac_of_T (hsel : ∀ (j : Nat) (o : Oper) cs b, ops[j]? = some o → o.op ≠ .select cs b) (hQ : ∀ c a w, ¬ Q (.panic c) a w) :
    ∀ (t : OT) (L : Array Bool) (a : Act) (w : World), Closed md ops L → (t.noFree = true ∨ C w) → t.ok md ops L = true → wpT P ops C Q t a w → wpAC P md ops C Q t.depth L a w := by
  intro t
  induction t with
  | done =>
    intro L a w _ _ hok h
    exact ⟨by simpa [OT.ok] using hok, h⟩
  | free i t ih =>
    intro L a w hcl hC hok h
    simp only [OT.ok, Bool.and_eq_true] at hok
    obtain ⟨⟨hr, hf⟩, hok⟩ := hok
    obtain ⟨o, v, ho, hy, h⟩ := h
    have hC' : C w := by
      rcases hC with h0 | h0
      · simp [OT.noFree] at h0
      · exact h0
    have hr' : i ∈ Region.ready md ops L := by simpa using hr
    exact ac_first ho hsel hQ t.depth L a w hcl hC' (Region.free_spec ho hf) hr' hy (ih _ _ _ (hcl.set hr') (.inr hC') hok h)
  | one i c t ih =>
    intro L a w hcl hC hok h
    simp only [OT.ok, Bool.and_eq_true, Bool.or_eq_true, decide_eq_true_eq] at hok
    obtain ⟨⟨hr, hc⟩, hok⟩ := hok
    have hr' : i ∈ Region.ready md ops L := by rw [hr]; simp
    refine ⟨fun h0 => (by rw [h0] at hr; cases hr), fun j hj => ?_⟩
    have hji : j = i := by rw [hr] at hj; simpa using hj
    subst hji
    refine wpOp_mono (fun a' w' h3 => ⟨fun hcov => ?_, ih _ _ _ (hcl.set hr') ?_ hok h3.2⟩) h
    · rcases hc with hc | hc
      · exact h3.1 hc
      · rw [hc.1] at hcov; cases hcov
    · rcases hc with hc | hc
      · exact .inr (h3.1 hc)
      · exact .inl hc.2
  | two i c t j d u iht ihu =>
    intro L a w hcl hC hok h
    simp only [OT.ok, Bool.and_eq_true, Bool.or_eq_true, decide_eq_true_eq] at hok
    obtain ⟨⟨⟨⟨⟨hr, hc⟩, hd⟩, hdep⟩, hokt⟩, hoku⟩ := hok
    have hdep' : t.depth = u.depth := Nat.eq_of_beq_eq_true hdep
    have hri : i ∈ Region.ready md ops L := by rw [hr]; simp
    have hrj : j ∈ Region.ready md ops L := by rw [hr]; simp
    refine ⟨fun h0 => (by rw [h0] at hr; cases hr), fun k hk => ?_⟩
    have hk' : k = i ∨ k = j := by rw [hr] at hk; simpa using hk
    rcases hk' with rfl | rfl
    · refine wpOp_mono (fun a' w' h3 => ⟨fun hcov => ?_, iht _ _ _ (hcl.set hri) ?_ hokt h3.2⟩) h.1
      · rcases hc with hc | hc
        · exact h3.1 hc
        · rw [hc.1] at hcov; cases hcov
      · rcases hc with hc | hc
        · exact .inr (h3.1 hc)
        · exact .inl hc.2
    · refine wpOp_mono (fun a' w' h3 => ⟨fun hcov => ?_, ?_⟩) h.2
      · rcases hd with hd | hd
        · exact h3.1 hd
        · rw [hd.1] at hcov; cases hcov
      · show wpAC P md ops C Q t.depth _ _ _
        rw [hdep']
        refine ihu _ _ _ (hcl.set hrj) ?_ hoku h3.2
        rcases hd with hd | hd
        · exact .inr (h3.1 hd)
        · exact .inl hd.2
end

/-! ## over frames -/
section
variable {P : Program} {n : Nat} {D : List Deferred} {Q : Exit → Env → World → Prop} {E : Env} {w : World} {ops : Array Oper} {o : Oper} {K : Env → World → Prop} {C : World → Prop}

def TW (P : Program) (n : Nat) (D : List Deferred) (ops : Array Oper) (C : World → Prop) (t : OT) (K : Env → World → Prop) (E : Env) (w : World) : Prop :=
  ∀ a, Is n D E a → wpT P ops C (fun e a' w' => ∃ E', Is n D E' a' ∧ e = .normal ∧ K E' w') t a w

theorem tw_done (h : K E w) : TW P n D ops C .done K E w := fun _ ha => ⟨E, ha, rfl, h⟩

theorem tw_free {i d : Nat} {t : OT} {v : Value} (ho : ops[i]? = some o) (hw : Wanted n ops E o true) (hd : o.dst = some d) (hn : Nat.blt d n = true)
    (hr : ∀ u, C u → (execOp (ev E) o).run P u = .ok (.value v) u) (h : TW P n D ops C t K (upd E d v) w) : TW P n D ops C (.free i t) K E w := by
  intro a ha
  refine ⟨o, v, ho, .inl ⟨hw D a ha, by rw [ha.eval]; exact hr⟩, ?_⟩
  rw [hd]
  exact h _ (ha.put hn)

theorem tw_pass {i d : Nat} {t : OT} (ho : ops[i]? = some o) (hw : Wanted n ops E o false) (hd : o.dst = some d) (hn : Nat.blt d n = true)
    (h : TW P n D ops C t K (upd E d undef) w) : TW P n D ops C (.free i t) K E w := by
  intro a ha
  refine ⟨o, undef, ho, .inr ⟨hw D a ha, rfl⟩, ?_⟩
  rw [hd]
  exact h _ (ha.put hn)

theorem wpOp_of_OpW {i : Nat} {a : Act} {KK : Act → World → Prop} {QQ : Exit → Act → World → Prop} (ho : ops[i]? = some o) (ha : Is n D E a) (h : OpW P n D ops o K E w)
    (hK : ∀ a' w' E', Is n D E' a' → K E' w' → KK a' w') : wpOp P ops QQ i KK a w := by
  have := h a ha KK QQ hK
  unfold wpOp
  simp only [ho]
  split
  · rename_i hw
    rw [if_pos hw] at this
    exact .inl this
  · rename_i hw
    rw [if_neg hw] at this
    exact this

theorem tw_one {i : Nat} {c : Bool} {t : OT} (ho : ops[i]? = some o) (h : OpW P n D ops o (fun E' w' => (c = true → C w') ∧ TW P n D ops C t K E' w') E w) : TW P n D ops C (.one i c t) K E w :=
  fun a ha => wpOp_of_OpW ho ha h fun a' w' E' h1 h2 => ⟨h2.1, h2.2 a' h1⟩

theorem tw_two {i j : Nat} {c d : Bool} {t u : OT} {o' : Oper} (ho : ops[i]? = some o) (ho' : ops[j]? = some o')
    (h : OpW P n D ops o (fun E' w' => (c = true → C w') ∧ TW P n D ops C t K E' w') E w)
    (h' : OpW P n D ops o' (fun E' w' => (d = true → C w') ∧ TW P n D ops C u K E' w') E w) : TW P n D ops C (.two i c t j d u) K E w :=
  fun a ha => ⟨wpOp_of_OpW ho ha h fun a' w' E' h1 h2 => ⟨h2.1, h2.2 a' h1⟩, wpOp_of_OpW ho' ha h' fun a' w' E' h1 h2 => ⟨h2.1, h2.2 a' h1⟩⟩

def OT.okB (ops : Array Oper) (t : OT) : Bool := Region.noSelect ops && Nat.beq t.depth ops.size && t.ok .any ops (Array.replicate ops.size false)

theorem cw_drawn {id : Nat} {l : List Oper} (C : World → Prop) (t : OT) (hm : P.follows .mixedOrders = true) (hok : t.okB l.toArray = true) (hC : C w.drew)
    (h : ∀ K : Env → World → Prop, (∀ E w, Q .normal E w → K E w) → TW P n D l.toArray C t K E w.drew) : CW P n D (.region id l.toArray true) Q E w := by
  intro a ha
  refine Code.wp_mono (Q := fun e a' w' => ∃ E', Is n D E' a' ∧ e = .normal ∧ Q .normal E' w') ?_ ?_
  · rintro e a' w' ⟨E', h1, rfl, h2⟩
    exact ⟨E', h1, h2⟩
  · simp only [OT.okB, Bool.and_eq_true] at hok
    refine wp_region_any hm (wpAny_of_AC (C := C) _ _ _ _ ?_)
    have := ac_of_T (md := .any) (C := C) (Q := fun e a' w' => ∃ E', Is n D E' a' ∧ e = .normal ∧ Q .normal E' w') (Region.noSelect_spec hok.1.1)
      (fun c a w ⟨_, _, h, _⟩ => by cases h) t (Array.replicate l.toArray.size false) a w.drew (fun j oj _ hl => by
        exfalso
        rcases Nat.lt_or_ge j l.toArray.size with h | h
        · have h' : j < l.length := by simpa using h
          simp [h'] at hl
        · have h' : l.length ≤ j := by simpa using h
          simp [h'] at hl) (.inr hC) hok.2 (h (fun E w => Q .normal E w) (fun _ _ h => h) a ha)
    rwa [Nat.eq_of_beq_eq_true hok.1.2] at this
end
end Go.Proofs.Ytdnncgapbjnfoaa

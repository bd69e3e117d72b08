/-
  The walks' logic inside a fence: a region that draws its order. No conditions; proved from the library's own laws.
-/
import Derived.Test.YtdnncgapbjnfoaaRound
import Derived.OrdersIn
namespace Go.Proofs.Ytdnncgapbjnfoaa
open Go Go.RowKit
set_option linter.unusedVariables false

section
variable {ro : Option Nat} {P : Program} {n : Nat} {D : List Deferred} {Q : Exit → Env → World → Prop} {E : Env} {w : World} {ops : Array Oper}
theorem ops_in {QQ : Exit → Act → World → Prop} (hq : ¬LetsOut QQ) (hd : ∀ (i : Nat) (o : Oper), ops[i]? = some o → isDef o = false) : ∀ (l : List Nat) (a : Act) (w : World), wpOps P ops QQ l a w → wpOpsIn (FR ro) 0 P ops QQ l a w := by
  intro l
  induction l with
  | nil => intro a w h; exact h
  | cons i rest ih =>
    intro a w h
    rw [wpOps_cons] at h
    rw [wpOpsIn_cons]
    unfold wpOp at h
    unfold wpOpIn
    cases ho : ops[i]? with
    | none => rw [ho] at h; exact ih _ _ h
    | some o =>
      rw [ho] at h
      have hdo := hd i o ho
      simp only at h ⊢
      split
      · rename_i hw
        rw [if_pos hw] at h
        rcases h with h | h
        · refine Oper.wpIn_mono (fun a' w' h' => ih a' w' h') (K := wpOps P ops QQ rest) ?_
          refine ⟨fun _ _ => trivial, ?_⟩
          rw [Oper.semAt_eq _ _ _ (fun c hc => by unfold isDef at hdo; rw [hc] at hdo; cases hdo)]
          exact upon_in _ h
        · exact absurd h.2 hq
      · rename_i hw
        rw [if_neg hw] at h
        exact ⟨fun _ _ => trivial, ih _ _ h⟩
theorem cr_drawn {id : Nat} {l : List Oper} (C : World → Prop) (t : OT) (hm : P.follows .mixedOrders = true) (hok : (t.okB l.toArray && l.all fun o => !isDef o) = true) (hC : C w.drew)
    (h : ∀ K : Env → World → Prop, (∀ E w, Q .normal E w → K E w) → TW P n D l.toArray C t K E w.drew) : CR ro P n D (.region id l.toArray true) Q E w := by
  intro a ha
  rw [Bool.and_eq_true] at hok
  obtain ⟨hok, hall⟩ := hok
  refine wpIn_mono (Q := fun e a' w' => ∃ E', Is n D E' a' ∧ e = .normal ∧ Q .normal E' w') ?_ ?_
  · simp only [OT.okB, Bool.and_eq_true] at hok
    refine wpIn_region_draw fun s => ?_
    simp only [Region.schedule, hm, Bool.true_or, if_true]
    refine ops_in ?_ ?_ _ _ _ (wpAny_sound l.toArray.size s _ a _ (wpAny_of_AC (C := C) _ _ _ _ ?_))
    · rintro ⟨_, _, _, _, h0, _⟩; cases h0
    · intro i o ho
      have hm2 : o ∈ l := by
        have := List.mem_of_getElem? (l := l) (by simpa using ho)
        exact this
      have := List.all_eq_true.1 hall o hm2
      simpa using this
    · have := ac_of_T (md := .any) (C := C) (Q := fun e a' w' => ∃ E', Is n D E' a' ∧ e = .normal ∧ Q .normal E' w') (Region.noSelect_spec hok.1.1)
        (fun c a w ⟨_, _, h, _⟩ => by cases h) t (Array.replicate l.toArray.size false) a w.drew (fun j oj _ hl => by
          exfalso
          rcases Nat.lt_or_ge j l.toArray.size with h | h
          · have h' : j < l.length := by simpa using h
            simp [h'] at hl
          · have h' : l.length ≤ j := by simpa using h
            simp [h'] at hl) (.inr hC) hok.2 (h (fun E w => Q .normal E w) (fun _ _ h => h) a ha)
      rwa [Nat.eq_of_beq_eq_true hok.1.2] at this
  · rintro e a' w' ⟨E', h1, rfl, h2⟩
    exact ⟨E', h1, h2⟩
end
end Go.Proofs.Ytdnncgapbjnfoaa

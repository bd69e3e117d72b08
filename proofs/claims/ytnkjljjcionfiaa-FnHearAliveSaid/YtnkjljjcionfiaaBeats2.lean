/-
  Plain: what follows of being heard, alive, dead. No conditions; no program in sight.
-/
import Derived.Test.YtnkjljjcionfiaaBeats
namespace Go.Proofs.Ytnkjljjcionfiaa
open Go Go.RowKit
set_option linter.unusedVariables false

theorem srvV_mem_at {xs : List Bt} {now within : Int} {al : Bool} (h : SrvOK xs now within) {i : Nat} (hi : i < xs.length) : (el xs i).s ∈ srvV xs now within al ↔ decide (now - (el xs i).a < within) = al := by
  rw [srvV_yes h]; exact srv_mem_at h.1.asc hi
theorem alive_at {xs : List Bt} {now within : Int} (h : SrvOK xs now within) {i : Nat} (hi : i < xs.length) : (now < (el xs i).a + within) ↔ (el xs i).s ∈ srvV xs now within true := by
  rw [srvV_mem_at h hi, decide_eq_true_iff]; omega
theorem alive_dead {xs : List Bt} {now within : Int} (h : SrvOK xs now within) {i : Nat} (hi : i < xs.length) : (el xs i).s ∈ srvV xs now within true ↔ ¬((el xs i).s ∈ srvV xs now within false) := by
  rw [srvV_mem_at h hi, srvV_mem_at h hi, decide_eq_true_iff, decide_eq_false_iff_not, Classical.not_not]
theorem alive_longer {xs : List Bt} {now within : Int} (h : SrvOK xs now within) (h9 : within ≠ 9999) {y : Int} (hy : y ∈ srvV xs now within true) : y ∈ srvV xs now (within + 1) true := by
  have h2 : SrvOK xs now (within + 1) := ⟨h.1, h.2.1, by have := h.2.2; omega⟩
  rw [srvV_yes h, srv_mem] at hy
  rw [srvV_yes h2, srv_mem]
  obtain ⟨j, hj, h3, h4⟩ := hy
  exact ⟨j, hj, by rw [decide_eq_true_iff] at h3 ⊢; omega, h4⟩
theorem dead_later {xs : List Bt} {now within : Int} (h : SrvOK xs now within) (h9 : now ≠ 9999) {y : Int} (hy : y ∈ srvV xs now within false) : y ∈ srvV xs (now + 1) within false := by
  have h2 : SrvOK xs (now + 1) within := ⟨h.1, by have := h.2.1; omega, h.2.2⟩
  rw [srvV_yes h, srv_mem] at hy
  rw [srvV_yes h2, srv_mem]
  obtain ⟨j, hj, h3, h4⟩ := hy
  exact ⟨j, hj, by rw [decide_eq_false_iff_not] at h3 ⊢; omega, h4⟩
theorem both_len {xs : List Bt} {now within : Int} (h : SrvOK xs now within) : (srvV xs now within false).length + (srvV xs now within true).length = xs.length := by
  rw [srvV_yes h, srvV_yes h]; have := srv_both xs now within; omega

theorem hear_el_at {xs : List Bt} {x : Bt} {p : Nat} (hp : IsPlace xs x p) (h : p < xs.length ∧ (el xs p).s = x.s) (i : Nat) : el (hearL xs x) i = if i = p then ⟨(el xs p).s, max (el xs p).a x.a⟩ else el xs i := by
  rw [hearL_at xs p hp h.1 h.2, el_set _ _ _ _ h.1]
theorem hear_el_new {xs : List Bt} {x : Bt} {p : Nat} (hp : IsPlace xs x p) (h : ¬(p < xs.length ∧ (el xs p).s = x.s)) (i : Nat) : el (hearL xs x) i = if i < p then el xs i else if i = p then x else el xs (i - 1) := by
  have hpl := hp.1
  have ht : (xs.take p).length = p := by simp; omega
  rw [hearL_new xs p hp h, List.append_assoc, el_app, ht]
  by_cases h1 : i < p
  · rw [if_pos h1, if_pos h1, el_take _ _ _ h1]
  · rw [if_neg h1, if_neg h1, el_app]
    by_cases h2 : i = p
    · subst h2; simp [el]
    · rw [if_neg (by simp; omega), if_neg h2, el_drop, List.length_singleton]
      congr 1; omega
theorem hear_length {xs : List Bt} {x : Bt} {p : Nat} (hp : IsPlace xs x p) : (hearL xs x).length = if p < xs.length ∧ (el xs p).s = x.s then xs.length else xs.length + 1 := by
  have := hp.1
  split
  · rename_i h; rw [hearL_at xs p hp h.1 h.2]; simp
  · rename_i h; rw [hearL_new xs p hp h]; simp; omega
theorem hear_has (xs : List Bt) (x : Bt) : ∃ i, i < (hearL xs x).length ∧ (el (hearL xs x) i).s = x.s ∧ x.a ≤ (el (hearL xs x) i).a := by
  obtain ⟨p, hp⟩ := place_exists xs x
  have hpl := hp.1
  by_cases h : p < xs.length ∧ (el xs p).s = x.s
  · refine ⟨p, by rw [hear_length hp, if_pos h]; exact h.1, ?_, ?_⟩
    · rw [hear_el_at hp h, if_pos rfl]; exact h.2
    · rw [hear_el_at hp h, if_pos rfl]; show x.a ≤ max _ _; omega
  · refine ⟨p, by rw [hear_length hp, if_neg h]; omega, ?_, ?_⟩
    · rw [hear_el_new hp h, if_neg (by omega), if_pos rfl]
    · rw [hear_el_new hp h, if_neg (by omega), if_pos rfl]; omega

/-- the time of a server in a list, 0 where it is not there -/
def oldL (x : Bt) (xs : List Bt) : Int := xs.foldl (fun o b => if b.s = x.s then b.a else o) 0
theorem oldL_yes {x : Bt} {xs : List Bt} {k : Nat} (hk : k < xs.length) (h : (el xs k).s = x.s) : oldL x (xs.take (k + 1)) = (el xs k).a := by
  unfold oldL
  rw [take_snoc xs k hk, List.foldl_append]
  simp [h]
theorem oldL_no {x : Bt} {xs : List Bt} {k : Nat} (hk : k < xs.length) (h : ¬(el xs k).s = x.s) : oldL x (xs.take (k + 1)) = oldL x (xs.take k) := by
  unfold oldL
  rw [take_snoc xs k hk, List.foldl_append]
  simp [h]
theorem oldL_spec (x : Bt) (xs : List Bt) : (∃ j, j < xs.length ∧ (el xs j).s = x.s ∧ oldL x xs = (el xs j).a) ∨ ((∀ j, j < xs.length → (el xs j).s ≠ x.s) ∧ oldL x xs = 0) := by
  have key : ∀ k, k ≤ xs.length → (∃ j, j < k ∧ (el xs j).s = x.s ∧ oldL x (xs.take k) = (el xs j).a) ∨ ((∀ j, j < k → (el xs j).s ≠ x.s) ∧ oldL x (xs.take k) = 0) := by
    intro k
    induction k with
    | zero => intro _; exact .inr ⟨fun j hj => by omega, rfl⟩
    | succ k ih =>
      intro hk
      by_cases h : (el xs k).s = x.s
      · exact .inl ⟨k, by omega, h, oldL_yes (by omega) h⟩
      · rw [oldL_no (by omega) h]
        rcases ih (by omega) with ⟨j, h1, h2, h3⟩ | ⟨h1, h2⟩
        · exact .inl ⟨j, by omega, h2, h3⟩
        · refine .inr ⟨fun j hj => ?_, h2⟩
          by_cases e : j = k
          · subst e; exact h
          · exact h1 j (by omega)
  have := key xs.length (Nat.le_refl _)
  rwa [List.take_length] at this
theorem hear_at {xs : List Bt} {x : Bt} (h : HearOK xs x) {i : Nat} (hi : i < (hearL xs x).length) (hs : (el (hearL xs x) i).s = x.s) : (el (hearL xs x) i).a = max (oldL x xs) x.a := by
  have hasc := h.1.asc
  have hasc2 := h.2.2.asc
  have hx0 : 0 ≤ x.a := h.2.1.2.1
  obtain ⟨p, hp⟩ := place_exists xs x
  have hpl := hp.1
  have uniq : ∀ {ys : List Bt}, AscB ys → ∀ a b, a < ys.length → b < ys.length → (el ys a).s = (el ys b).s → a = b := fun {ys} hy a b ha hb hab => by
    rcases Nat.lt_trichotomy a b with h3 | h3 | h3
    · have := hy a b h3 hb; omega
    · exact h3
    · have := hy b a h3 ha; omega
  have hlen := hear_length hp
  by_cases hc : p < xs.length ∧ (el xs p).s = x.s
  · rw [if_pos hc] at hlen
    have hi' : i = p := by
      refine uniq hasc2 i p hi (by omega) ?_
      rw [hs, hear_el_at hp hc, if_pos rfl]
      exact hc.2.symm
    subst hi'
    rw [hear_el_at hp hc, if_pos rfl]
    rcases oldL_spec x xs with ⟨j, h1, h2, h3⟩ | ⟨h1, _⟩
    · have : j = i := uniq hasc j i h1 hc.1 (by rw [h2, hc.2])
      subst this
      rw [h3]
    · exact absurd hc.2 (h1 i hc.1)
  · rw [if_neg hc] at hlen
    have hi' : i = p := by
      refine uniq hasc2 i p hi (by omega) ?_
      rw [hs, hear_el_new hp hc, if_neg (by omega), if_pos rfl]
    subst hi'
    rw [hear_el_new hp hc, if_neg (by omega), if_pos rfl]
    rcases oldL_spec x xs with ⟨j, h1, h2, h3⟩ | ⟨_, h2⟩
    · exfalso
      by_cases hj : j < i
      · have := hp.2.1 j hj; omega
      · have hnl := hp.2.2 (by omega)
        by_cases e : j = i
        · subst e; exact hc ⟨h1, h2⟩
        · have := hasc i j (by omega) h1
          have hne : (el xs i).s ≠ x.s := fun e => hc ⟨by omega, e⟩
          omega
    · rw [h2]; omega

theorem hear_others (x : Bt) : ∀ xs : List Bt, (hearL xs x).filter (fun b => !decide (b.s = x.s)) = xs.filter (fun b => !decide (b.s = x.s)) := by
  intro xs
  induction xs with
  | nil => simp [hearL]
  | cons b r ih =>
    unfold hearL
    split
    · simp [List.filter_cons, ih]
    · split
      · rename_i h; simp [h]
      · simp [List.filter_cons]
theorem hear_again (x : Bt) : ∀ xs : List Bt, hearL (hearL xs x) x = hearL xs x := by
  intro xs
  induction xs with
  | nil =>
    show hearL [x] x = [x]
    unfold hearL
    rw [if_neg (by omega), if_pos rfl]
    congr 1
    exact bt_ext rfl (by show max x.a x.a = x.a; omega)
  | cons b r ih =>
    by_cases h1 : b.s < x.s
    · have e : hearL (b :: r) x = b :: hearL r x := by rw [hearL, if_pos h1]
      rw [e, hearL, if_pos h1, ih]
    · by_cases h2 : b.s = x.s
      · have e : hearL (b :: r) x = ⟨b.s, max b.a x.a⟩ :: r := by rw [hearL, if_neg h1, if_pos h2]
        rw [e, hearL, if_neg h1, if_pos h2]
        congr 1
        exact bt_ext rfl (by show max (max b.a x.a) x.a = max b.a x.a; omega)
      · have e : hearL (b :: r) x = x :: b :: r := by rw [hearL, if_neg h1, if_neg h2]
        rw [e, hearL, if_neg (by omega), if_pos rfl]
        congr 1
        exact bt_ext rfl (by show max x.a x.a = x.a; omega)
theorem hear_ok_again {xs : List Bt} {x : Bt} (h : HearOK xs x) : HearOK (hearL xs x) x := ⟨h.2.2, h.2.1, by rw [hear_again]; exact h.2.2⟩

/-- those whose server is another one -/
def others (x : Bt) (xs : List Bt) : List Bt := xs.filter fun b => !decide (b.s = x.s)
theorem others_yes {x : Bt} {xs : List Bt} {k : Nat} (hk : k < xs.length) (h : (el xs k).s ≠ x.s) : others x (xs.take (k + 1)) = others x (xs.take k) ++ [el xs k] := by
  unfold others
  rw [take_snoc xs k hk, List.filter_append, List.filter_cons, if_pos (by simp [h])]
  rfl
theorem others_no {x : Bt} {xs : List Bt} {k : Nat} (hk : k < xs.length) (h : (el xs k).s = x.s) : others x (xs.take (k + 1)) = others x (xs.take k) := by
  unfold others
  rw [take_snoc xs k hk, List.filter_append, List.filter_cons, if_neg (by simp [h])]
  simp
theorem others_le (x : Bt) (xs : List Bt) : (others x xs).length ≤ xs.length := List.length_filter_le _ _

/-! a dead server is heard -/
theorem srv_asc {xs : List Bt} (h : AscB xs) (now within : Int) (al : Bool) : (srvL xs now within al).Pairwise (· < ·) := by
  unfold srvL
  rw [List.pairwise_map]
  refine List.Pairwise.filter _ ?_
  rw [List.pairwise_iff_getElem]
  intro i j hi hj hij
  have := h i j hij hj
  rwa [el_eq hi, el_eq hj] at this
theorem drop_value : ∀ (l : List Int) (k : Nat), l.Pairwise (· < ·) → k < l.length → l.take k ++ l.drop (k + 1) = l.filter fun y => !decide (y = el l k) := by
  intro l
  induction l with
  | nil => intro k _ h; simp at h
  | cons a r ih =>
    intro k hp hk
    rw [List.pairwise_cons] at hp
    cases k with
    | zero =>
      have hz : el (a :: r) 0 = a := rfl
      rw [hz, List.filter_cons, if_neg (by simp)]
      show r = _
      refine (List.filter_eq_self.2 fun y hy => ?_).symm
      have := hp.1 y hy
      simp; omega
    | succ k =>
      have hz : el (a :: r) (k + 1) = el r k := rfl
      have hk' : k < r.length := by simpa using hk
      have hlt := hp.1 (el r k) (el_mem hk')
      rw [hz, List.filter_cons, if_pos (by simp; omega), ← ih k hp.2 hk']
      rfl
theorem dead_hear {xs : List Bt} {now within : Int} (h : SrvOK xs now within) {k : Nat} (hk : k < (srvV xs now within false).length) :
    HearOK xs ⟨el (srvV xs now within false) k, now⟩ ∧ srvV (hearV xs ⟨el (srvV xs now within false) k, now⟩) now within false = (srvV xs now within false).take k ++ (srvV xs now within false).drop (k + 1) := by
  rw [srvV_yes h] at hk ⊢
  have hasc := h.1.asc
  obtain ⟨hn, hw⟩ := h.2
  obtain ⟨j, hj, h1, h2⟩ := srv_mem.1 (el_mem hk)
  rw [decide_eq_false_iff_not] at h1
  have hbj := h.1.ok hj
  have hp : IsPlace xs ⟨el (srvL xs now within false) k, now⟩ j := ⟨by omega, fun i hi => by rw [← h2]; exact hasc i j hi hj, fun _ => by rw [← h2]; exact Int.lt_irrefl _⟩
  have hL : hearL xs ⟨el (srvL xs now within false) k, now⟩ = xs.set j ⟨(el xs j).s, now⟩ := by
    rw [hearL_at xs j hp hj h2]
    congr 2
    show max _ now = now
    omega
  have hels : ∀ i, el (xs.set j ⟨(el xs j).s, now⟩) i = if i = j then ⟨(el xs j).s, now⟩ else el xs i := fun i => el_set _ _ _ _ hj
  have hok2 : BeatsOK (xs.set j ⟨(el xs j).s, now⟩) := beatsOK_of (by simpa using h.1.1) (fun i hi => by
      rw [hels]
      split
      · exact ⟨hbj.1, hn⟩
      · exact h.1.ok (by simpa using hi)) (fun a b hab hb => by
      rw [hels, hels]
      have := hasc a b hab (by simpa using hb)
      split <;> split <;> first | omega | (rename_i e1 e2; subst e1; exact this) | (rename_i e1 e2; subst e2; exact this) | exact this)
  have hok : HearOK xs ⟨el (srvL xs now within false) k, now⟩ := ⟨h.1, ⟨by rw [← h2]; exact hbj.1, hn⟩, by rw [hL]; exact hok2⟩
  refine ⟨hok, ?_⟩
  rw [hearV_yes hok, hL, srvV_yes ⟨hok2, hn, hw⟩, drop_value _ k (srv_asc hasc now within false) hk, ← h2]
  unfold srvL
  rw [List.filter_map, List.filter_filter]
  -- both are filters of the same list, element by element
  have key : ∀ (ys zs : List Bt), ys.length = zs.length → (∀ i, i < ys.length → (el ys i).s = (el zs i).s ∧ (srvP now within false (el ys i) = (!decide ((el zs i).s = (el xs j).s) && srvP now within false (el zs i)))) →
      (ys.filter (srvP now within false)).map Bt.s = (zs.filter fun b => ((fun y => !decide (y = (el xs j).s)) ∘ Bt.s) b && srvP now within false b).map Bt.s := by
    intro ys
    induction ys with
    | nil =>
      intro zs hl _
      have : zs = [] := List.eq_nil_of_length_eq_zero hl.symm
      subst this; rfl
    | cons y r ih =>
      intro zs hl hall
      cases zs with
      | nil => simp at hl
      | cons z q =>
        have h0 := hall 0 (by simp)
        have hy : el (y :: r) 0 = y := rfl
        have hz : el (z :: q) 0 = z := rfl
        rw [hy, hz] at h0
        have hr := ih q (by simpa using hl) (fun i hi => by
          have := hall (i + 1) (by simpa using hi)
          exact this)
        simp only [List.filter_cons, Function.comp_apply]
        rw [h0.2]
        split
        · rw [List.map_cons, List.map_cons, hr, h0.1]; rfl
        · exact hr
  refine key _ _ (by simp) fun i hi => ?_
  have hi' : i < xs.length := by simpa using hi
  rw [hels]
  by_cases e : i = j
  · subst e
    rw [if_pos rfl]
    refine ⟨rfl, ?_⟩
    simp [srvP]
    omega
  · rw [if_neg e]
    refine ⟨rfl, ?_⟩
    have hne : (el xs i).s ≠ (el xs j).s := fun h3 => by
      rcases Nat.lt_trichotomy i j with h4 | h4 | h4
      · have := hasc i j h4 hj; omega
      · exact e h4
      · have := hasc j i h4 hi'; omega
    simp [hne]
theorem hear_alive {xs : List Bt} {x : Bt} {within : Int} (h : HearOK xs x) (hw : 1 ≤ within ∧ within ≤ 9999) : x.s ∈ srvV (hearV xs x) x.a within true := by
  rw [hearV_yes h, srvV_yes ⟨h.2.2, h.2.1.2, hw⟩, srv_mem]
  obtain ⟨i, h1, h2, h3⟩ := hear_has xs x
  exact ⟨i, h1, by rw [decide_eq_true_iff]; omega, h2⟩
end Go.Proofs.Ytnkjljjcionfiaa

/-
  Plain: servers in the order in which a piece wants them; a heap of scored servers. No conditions; no program in sight.
-/
import Derived.Test.YtielahdnccocdaaPlaces
import Derived.Test.YtielahdnccocdaaBeats
namespace Go.Proofs.Ytielahdnccocdaa
open Go Go.RowKit
set_option linter.unusedVariables false

deriving instance DecidableEq for Bt
/-- x is ahead of y for a piece -/
def Bet (p x y : Int) : Prop := mixP p y < mixP p x ∨ (mixP p y = mixP p x ∧ x < y)
noncomputable instance (p x y : Int) : Decidable (Bet p x y) := Classical.propDecidable _
theorem bet_tri (p x y : Int) : Bet p x y ∨ x = y ∨ Bet p y x := by unfold Bet; omega
theorem bet_irr (p x : Int) : ¬Bet p x x := by unfold Bet; omega
theorem bet_asym {p x y : Int} (h : Bet p x y) : ¬Bet p y x := by unfold Bet at *; omega
theorem bet_trans {p x y z : Int} (h : Bet p x y) (k : Bet p y z) : Bet p x z := by unfold Bet at *; omega

noncomputable def insP (p x : Int) : List Int → List Int
  | [] => [x]
  | y :: r => if Bet p x y then x :: y :: r else y :: insP p x r
noncomputable def rankP (p : Int) : List Int → List Int
  | [] => []
  | x :: r => insP p x (rankP p r)
theorem insP_perm (p x : Int) : ∀ l, (insP p x l).Perm (x :: l) := by
  intro l
  induction l with
  | nil => exact List.Perm.refl _
  | cons y r ih =>
    unfold insP
    split
    · exact List.Perm.refl _
    · exact (List.Perm.cons y ih).trans (List.Perm.swap x y r)
theorem rankP_perm (p : Int) : ∀ l, (rankP p l).Perm l := by
  intro l
  induction l with
  | nil => exact List.Perm.refl _
  | cons x r ih => exact (insP_perm p x _).trans (List.Perm.cons x ih)
theorem rankP_len (p : Int) (l : List Int) : (rankP p l).length = l.length := (rankP_perm p l).length_eq
theorem rankP_mem {p : Int} {l : List Int} {x : Int} : x ∈ rankP p l ↔ x ∈ l := (rankP_perm p l).mem_iff
theorem insP_sorted (p x : Int) : ∀ l : List Int, l.Pairwise (Bet p) → x ∉ l → (insP p x l).Pairwise (Bet p) := by
  intro l
  induction l with
  | nil => intro _ _; unfold insP; simp
  | cons y r ih =>
    intro h hx
    rw [List.pairwise_cons] at h
    unfold insP
    split
    · rename_i hb
      rw [List.pairwise_cons]
      refine ⟨fun z hz => ?_, List.pairwise_cons.2 h⟩
      rcases List.mem_cons.1 hz with rfl | hz
      · exact hb
      · exact bet_trans hb (h.1 z hz)
    · rename_i hb
      have hyx : Bet p y x := by
        rcases bet_tri p x y with h1 | h1 | h1
        · exact absurd h1 hb
        · exact absurd (by rw [h1]; simp) hx
        · exact h1
      rw [List.pairwise_cons]
      refine ⟨fun z hz => ?_, ih h.2 (fun h1 => hx (by simp [h1]))⟩
      rcases List.mem_cons.1 ((insP_perm p x r).mem_iff.1 hz) with rfl | hz
      · exact hyx
      · exact h.1 z hz
theorem rankP_sorted (p : Int) : ∀ l : List Int, l.Nodup → (rankP p l).Pairwise (Bet p) := by
  intro l
  induction l with
  | nil => intro _; exact List.Pairwise.nil
  | cons x r ih =>
    intro h
    rw [List.nodup_cons] at h
    exact insP_sorted p x _ (ih h.2) (fun h1 => h.1 (rankP_mem.1 h1))
theorem rank_unique {p : Int} : ∀ {l m : List Int}, l.Pairwise (Bet p) → m.Pairwise (Bet p) → l.Perm m → l = m := by
  intro l
  induction l with
  | nil => intro m _ _ h; exact (List.nil_perm.1 h).symm
  | cons x r ih =>
    intro m hl hm h
    cases m with
    | nil => have := h.length_eq; simp at this
    | cons y q =>
      rw [List.pairwise_cons] at hl hm
      have hxy : x = y := by
        have h1 : x ∈ y :: q := h.mem_iff.1 (by simp)
        have h2 : y ∈ x :: r := h.mem_iff.2 (by simp)
        rcases List.mem_cons.1 h1 with h1 | h1
        · exact h1
        · rcases List.mem_cons.1 h2 with h2 | h2
          · exact h2.symm
          · exact absurd (hl.1 y h2) (bet_asym (hm.1 x h1))
      subst hxy
      rw [ih hl.2 hm.2 (List.perm_cons x |>.1 h)]
theorem ids_nodup {xs : List Int} (h : IdsOK xs) : xs.Nodup := by
  rw [List.nodup_iff_pairwise_ne, List.pairwise_iff_getElem]
  intro i j hi hj hij
  have := ids_mono h hij hj
  rw [el_eq hi, el_eq hj] at this
  omega
/-- the next one: not yet taken, and ahead of all others that are not -/
def IsNext (p : Int) (l t : List Int) (x : Int) : Prop := x ∈ l ∧ x ∉ t ∧ ∀ y ∈ l, y ∉ t → y = x ∨ Bet p x y
theorem next_unique {p : Int} {l t : List Int} {x y : Int} (h : IsNext p l t x) (k : IsNext p l t y) : x = y := by
  rcases h.2.2 y k.1 k.2.1 with h1 | h1
  · exact h1.symm
  · rcases k.2.2 x h.1 h.2.1 with h2 | h2
    · exact h2
    · exact absurd h2 (bet_asym h1)
theorem rank_next {p : Int} {l : List Int} (hn : l.Nodup) {k : Nat} (hk : k < l.length) : IsNext p l ((rankP p l).take k) (el (rankP p l) k) := by
  have hs := rankP_sorted p l hn
  have hl := rankP_len p l
  have hk' : k < (rankP p l).length := by omega
  have hdec : rankP p l = (rankP p l).take k ++ el (rankP p l) k :: (rankP p l).drop (k + 1) := by
    rw [el_eq hk', ← List.drop_eq_getElem_cons hk', List.take_append_drop]
  rw [hdec] at hs
  rw [List.pairwise_append] at hs
  obtain ⟨h1, h2, h3⟩ := hs
  rw [List.pairwise_cons] at h2
  refine ⟨rankP_mem.1 (el_mem hk'), fun h => bet_irr p _ (h3 _ h _ (by simp)), fun y hy hnt => ?_⟩
  have hy' : y ∈ rankP p l := rankP_mem.2 hy
  rw [hdec] at hy'
  rcases List.mem_append.1 hy' with h | h
  · exact absurd h hnt
  · rcases List.mem_cons.1 h with h | h
    · exact .inl h
    · exact .inr (h2.1 y h)

/-! what the reference takes: the best of those not taken, the first of several -/
noncomputable def bestStep (p : Int) (t : List Int) (o x : Int) : Int := if x ∉ t ∧ (o = 0 ∨ mixP p o < mixP p x) then x else o
noncomputable def bestL (p : Int) (t l : List Int) : Int := l.foldl (bestStep p t) 0
theorem bestL_snoc (p : Int) (t : List Int) {l : List Int} {k : Nat} (hk : k < l.length) : bestL p t (l.take (k + 1)) = bestStep p t (bestL p t (l.take k)) (el l k) := by
  unfold bestL
  rw [take_snoc l k hk, List.foldl_append]
  rfl
theorem best_inv {p : Int} {t l : List Int} (h : IdsOK l) : ∀ k, k ≤ l.length → (bestL p t (l.take k) = 0 ∧ ∀ j, j < k → el l j ∈ t) ∨
    (∃ i, i < k ∧ bestL p t (l.take k) = el l i ∧ el l i ∉ t ∧ ∀ j, j < k → el l j ∉ t → j = i ∨ Bet p (el l i) (el l j)) := by
  intro k
  induction k with
  | zero => intro _; exact .inl ⟨rfl, fun j hj => by omega⟩
  | succ k ih =>
    intro hk
    rw [bestL_snoc p t (by omega)]
    unfold bestStep
    have hpos := (h k (by omega)).1
    rcases ih (by omega) with ⟨h1, h2⟩ | ⟨i, hi, h1, h2, h3⟩
    · rw [h1]
      by_cases ht : el l k ∈ t
      · rw [if_neg (fun h9 => h9.1 ht)]
        refine .inl ⟨rfl, fun j hj => ?_⟩
        by_cases e : j = k
        · subst e; exact ht
        · exact h2 j (by omega)
      · rw [if_pos ⟨ht, .inl rfl⟩]
        refine .inr ⟨k, by omega, rfl, ht, fun j hj hjt => ?_⟩
        by_cases e : j = k
        · exact .inl e
        · exact absurd (h2 j (by omega)) hjt
    · rw [h1]
      have hip := (h i (by omega)).1
      by_cases hc : el l k ∉ t ∧ (el l i = 0 ∨ mixP p (el l i) < mixP p (el l k))
      · rw [if_pos hc]
        have hlt : mixP p (el l i) < mixP p (el l k) := by rcases hc.2 with h9 | h9; omega; exact h9
        refine .inr ⟨k, by omega, rfl, hc.1, fun j hj hjt => ?_⟩
        by_cases e : j = k
        · exact .inl e
        · right
          rcases h3 j (by omega) hjt with rfl | h4
          · exact .inl hlt
          · exact bet_trans (.inl hlt) h4
      · rw [if_neg hc]
        refine .inr ⟨i, by omega, rfl, h2, fun j hj hjt => ?_⟩
        by_cases e : j = k
        · subst e
          right
          have hge : ¬ mixP p (el l i) < mixP p (el l j) := fun h9 => hc ⟨hjt, .inr h9⟩
          have := ids_mono h hi (by omega)
          unfold Bet
          omega
        · exact h3 j (by omega) hjt
theorem best_next {p : Int} {t l : List Int} (h : IdsOK l) {x : Int} (hx : IsNext p l t x) : bestL p t l = x := by
  have := best_inv (p := p) (t := t) h l.length (Nat.le_refl _)
  rw [List.take_length] at this
  rcases this with ⟨_, h2⟩ | ⟨i, hi, h1, h2, h3⟩
  · obtain ⟨j, hj, e⟩ := mem_el.1 hx.1
    exact absurd (h2 j hj) (by rw [e]; exact hx.2.1)
  · rw [h1]
    refine next_unique ⟨el_mem hi, h2, fun y hy hyt => ?_⟩ hx
    obtain ⟨j, hj, rfl⟩ := mem_el.1 hy
    rcases h3 j hj hyt with rfl | h4
    · exact .inl rfl
    · exact .inr h4
theorem best_rank {p : Int} {l : List Int} (h : IdsOK l) {k : Nat} (hk : k < l.length) : bestL p ((rankP p l).take k) l = el (rankP p l) k := best_next h (rank_next (ids_nodup h) hk)

theorem best_yes {p o x : Int} {t : List Int} (hx : x ∉ t) (h : o = 0 ∨ mixP p o < mixP p x) : bestStep p t o x = x := if_pos ⟨hx, h⟩
theorem best_no1 {p o x : Int} {t : List Int} (hx : ¬x ∉ t) : bestStep p t o x = o := if_neg fun h => hx h.1
theorem best_no2 {p o x : Int} {t : List Int} (h1 : o ≠ 0) (h2 : ¬mixP p o < mixP p x) : bestStep p t o x = o := if_neg fun h => by rcases h.2 with h9 | h9 <;> contradiction
theorem best_bd {p : Int} {t l : List Int} (h : IdsOK l) {k : Nat} (hk : k ≤ l.length) : bestL p t (l.take k) = 0 ∨ (1 ≤ bestL p t (l.take k) ∧ bestL p t (l.take k) ≤ 99) := by
  rcases best_inv (p := p) (t := t) h k hk with ⟨h1, _⟩ | ⟨i, hi, h1, _⟩
  · exact .inl h1
  · rw [h1]; exact .inr (h i (by omega)).1

/-! the result -/
def PlaceOK (p : Int) (l : List Int) (m : Int) : Prop := (1 ≤ p ∧ p ≤ 99) ∧ ServersOK l ∧ 1 ≤ m ∧ m ≤ l.length
noncomputable def placeV (p : Int) (l : List Int) (m : Int) : List Int := bif dec (PlaceOK p l m) then (rankP p l).take m.toNat else []
theorem placeV_yes {p : Int} {l : List Int} {m : Int} (h : PlaceOK p l m) : placeV p l m = (rankP p l).take m.toNat := by unfold placeV; rw [dec_yes h]; rfl
theorem placeV_no {p : Int} {l : List Int} {m : Int} (h : ¬PlaceOK p l m) : placeV p l m = [] := by unfold placeV; rw [dec_no h]; rfl
theorem placeV_le (p : Int) (l : List Int) (m : Int) : (placeV p l m).length ≤ 8 := by
  by_cases h : PlaceOK p l m
  · rw [placeV_yes h]; have := rankP_len p l; have := h.2.1.1; simp; omega
  · rw [placeV_no h]; simp

/-! a heap of scored servers: a pair's first part is the server, its second one the score -/
def Ahead (x y : Bt) : Prop := y.a < x.a ∨ (y.a = x.a ∧ x.s < y.s)
theorem ahead_trans {x y z : Bt} (h : Ahead x y) (k : Ahead y z) : Ahead x z := by unfold Ahead at *; omega
theorem not_ahead_trans {x y z : Bt} (h : ¬Ahead y x) (k : ¬Ahead z y) : ¬Ahead z x := by unfold Ahead at *; omega
theorem ahead_irr (x : Bt) : ¬Ahead x x := by unfold Ahead; omega
theorem ahead_not {x y : Bt} (h : Ahead x y) : ¬Ahead y x := by unfold Ahead at *; omega
def par (j : Nat) : Nat := (j - 1) / 2
theorem par_int (j : Nat) : ((j : Int) - 1).tdiv 2 = ((par j : Nat) : Int) := by
  unfold par
  cases j with
  | zero => rfl
  | succ k => rw [show ((k + 1 : Nat) : Int) - 1 = (k : Int) by omega, show k + 1 - 1 = k by omega]; rfl
/-- nobody of the first n is ahead of its parent -/
def HeapN (n : Nat) (hs : List Bt) : Prop := ∀ j, 0 < j → j < n → ¬Ahead (el hs j) (el hs (par j))
def swap (hs : List Bt) (i j : Nat) : List Bt := (hs.set i (el hs j)).set j (el hs i)
theorem swap_len (hs : List Bt) (i j : Nat) : (swap hs i j).length = hs.length := by simp [swap]
theorem el_swap {hs : List Bt} {i j : Nat} (hi : i < hs.length) (hj : j < hs.length) (k : Nat) : el (swap hs i j) k = if k = j then el hs i else if k = i then el hs j else el hs k := by
  unfold swap
  rw [el_set _ _ _ _ (by simpa using hj)]
  split
  · rfl
  · rw [el_set _ _ _ _ hi]
theorem swap_perm {hs : List Bt} {i j : Nat} (hi : i < hs.length) (hj : j < hs.length) : (swap hs i j).Perm hs := by
  rw [List.perm_iff_count]
  intro b
  have key : ∀ (l : List Bt) (k : Nat) (y : Bt), k < l.length → (l.set k y).count b + (if el l k = b then 1 else 0) = l.count b + (if y = b then 1 else 0) := by
    intro l
    induction l with
    | nil => intro k y h; simp at h
    | cons z r ih =>
      intro k y hk
      cases k with
      | zero =>
        have hz : el (z :: r) 0 = z := rfl
        simp only [List.set_cons_zero, List.count_cons, hz]
        by_cases h1 : z = b <;> by_cases h2 : y = b <;> simp [h1, h2]
      | succ k =>
        have hz : el (z :: r) (k + 1) = el r k := rfl
        have := ih k y (by simpa using hk)
        simp only [List.set_cons_succ, List.count_cons, hz]
        omega
  unfold swap
  have h1 := key hs i (el hs j) hi
  have h2 := key (hs.set i (el hs j)) j (el hs i) (by simpa using hj)
  have h3 : el (hs.set i (el hs j)) j = el hs j := by
    rw [el_set _ _ _ _ hi]
    split
    · rfl
    · rfl
  rw [h3] at h2
  omega
/-- going up: all is well but at j -/
def UpInv (n j : Nat) (hs : List Bt) : Prop := (∀ k, 0 < k → k < n → k ≠ j → ¬Ahead (el hs k) (el hs (par k))) ∧ (∀ k, 0 < k → k < n → par k = j → 0 < j → ¬Ahead (el hs k) (el hs (par j)))
theorem up_start {n : Nat} {hs : List Bt} (h : HeapN n hs) : UpInv (n + 1) n hs :=
  ⟨fun k h0 hk hn => h k h0 (by omega), fun k h0 hk hp hj => by unfold par at hp; omega⟩
theorem heap_app {n : Nat} {hs : List Bt} (x : Bt) (hn : n = hs.length) (h : HeapN n hs) : HeapN n (hs ++ [x]) := fun j h0 hj => by
  have hp : par j < hs.length := by unfold par; omega
  rw [el_app1, el_app1, if_pos (by omega), if_pos hp]
  exact h j h0 hj
theorem up_push {n : Nat} {hs : List Bt} {x : Bt} (hn : n = hs.length) (h : HeapN n hs) : UpInv (hs ++ [x]).length ((((hs ++ [x]).length : Nat) : Int) - 1).toNat (hs ++ [x]) := by
  have e : (hs ++ [x]).length = n + 1 := by simp [hn]
  have e2 : (((n + 1 : Nat) : Int) - 1).toNat = n := by omega
  rw [e, e2]
  exact up_start (heap_app x hn h)
theorem up_done {n j : Nat} {hs : List Bt} (h : UpInv n j hs) (hj : j = par j ∨ ¬Ahead (el hs j) (el hs (par j))) : HeapN n hs := fun k h0 hk => by
  by_cases e : k = j
  · subst e
    rcases hj with h1 | h1
    · unfold par at h1; omega
    · exact h1
  · exact h.1 k h0 hk e
theorem up_step {n j : Nat} {hs : List Bt} (h : UpInv n j hs) (hj0 : par j ≠ j) (hjn : j < n) (hn : n ≤ hs.length) (ha : Ahead (el hs j) (el hs (par j))) : UpInv n (par j) (swap hs (par j) j) := by
  have hpj : par j < j := by unfold par at *; omega
  have hs_ := fun k => el_swap (hs := hs) (i := par j) (j := j) (by omega) (by omega) k
  refine ⟨fun k h0 hk hne => ?_, fun k h0 hk hp h1 => ?_⟩
  · rw [hs_, hs_]
    by_cases e1 : k = j
    · subst e1
      rw [if_pos rfl, if_neg (by omega), if_pos rfl]
      exact ahead_not ha
    · rw [if_neg e1, if_neg hne]
      by_cases e2 : par k = j
      · rw [if_pos e2]; exact h.2 k h0 hk e2 (by omega)
      · rw [if_neg e2]
        by_cases e3 : par k = par j
        · rw [if_pos e3]
          have := h.1 k h0 hk e1
          rw [e3] at this
          exact not_ahead_trans (ahead_not ha) this |> fun h9 => h9
        · rw [if_neg e3]; exact h.1 k h0 hk e1
  · have hpp : par (par j) < par j := by unfold par at *; omega
    rw [hs_, hs_, if_neg (show ¬ par (par j) = j by omega), if_neg (show ¬ par (par j) = par j by omega)]
    have hb := h.1 (par j) h1 (by omega) (by omega)
    by_cases e1 : k = j
    · subst e1
      rw [if_pos rfl]
      exact hb
    · rw [if_neg e1]
      have hkp : k ≠ par j := by unfold par at *; omega
      rw [if_neg hkp]
      have := h.1 k h0 hk e1
      rw [hp] at this
      exact not_ahead_trans hb this
/-- going down: all is well but at i's children -/
def DownInv (n i : Nat) (hs : List Bt) : Prop := (∀ k, 0 < k → k < n → par k ≠ i → ¬Ahead (el hs k) (el hs (par k))) ∧ (∀ k, 0 < k → k < n → par k = i → 0 < i → ¬Ahead (el hs k) (el hs (par i)))
theorem down_done {n i : Nat} {hs : List Bt} (h : DownInv n i hs) (hc : ∀ k, 0 < k → k < n → par k = i → ¬Ahead (el hs k) (el hs i)) : HeapN n hs := fun k h0 hk => by
  by_cases e : par k = i
  · rw [e]; exact hc k h0 hk e
  · exact h.1 k h0 hk e
theorem down_step {n i j : Nat} {hs : List Bt} (h : DownInv n i hs) (hj0 : 0 < j) (hjn : j < n) (hpj : par j = i) (hn : n ≤ hs.length) (ha : Ahead (el hs j) (el hs i)) (hbest : ∀ k, 0 < k → k < n → par k = i → ¬Ahead (el hs k) (el hs j)) :
    DownInv n j (swap hs i j) := by
  have hij : i < j := by unfold par at hpj; omega
  have hs_ := fun k => el_swap (hs := hs) (i := i) (j := j) (by omega) (by omega) k
  refine ⟨fun k h0 hk hne => ?_, fun k h0 hk hp h1 => ?_⟩
  · rw [hs_, hs_, if_neg hne]
    by_cases e1 : k = j
    · subst e1
      rw [if_pos rfl, if_pos hpj]
      exact ahead_not ha
    · rw [if_neg e1]
      by_cases e2 : k = i
      · subst e2
        have hpk : par k ≠ k := by unfold par; omega
        rw [if_pos rfl, if_neg hpk]
        exact h.2 j hj0 hjn hpj h0
      · rw [if_neg e2]
        by_cases e3 : par k = i
        · rw [if_pos e3]; exact hbest k h0 hk e3
        · rw [if_neg e3]; exact h.1 k h0 hk e3
  · have hkj : k ≠ j := by unfold par at hp; omega
    have hki : k ≠ i := by unfold par at hp; omega
    rw [hs_, hs_, if_neg hkj, if_neg hki, hpj, if_neg (show ¬ i = j by omega), if_pos rfl]
    have := h.1 k h0 hk (by omega)
    rw [hp] at this
    exact this
theorem down_start {n d : Nat} {hs : List Bt} (h : HeapN n hs) (hn : n = hs.length) (h0 : 0 < n) (hd : d = n - 1) : DownInv d 0 (swap hs 0 d) := by
  refine ⟨fun k hk0 hk hp => ?_, fun k hk0 hk hp h9 => by omega⟩
  have hpk : par k < k := by unfold par; omega
  rw [el_swap (by omega) (by omega), el_swap (by omega) (by omega), if_neg (by omega), if_neg (by omega), if_neg (by omega), if_neg hp]
  exact h k hk0 (by omega)
theorem pop_perm {n d : Nat} {hs ys : List Bt} (hn : n = hs.length) (h0 : 0 < n) (hd : d = n - 1) (hyl : ys.length = n) (hp : ys.Perm (swap hs 0 d)) (hr : ∀ k, d ≤ k → el ys k = el (swap hs 0 d) k) : (el hs 0 :: ys.take d).Perm hs ∧ el ys d = el hs 0 := by
  have e1 : el ys d = el hs 0 := by rw [hr d (Nat.le_refl _), el_swap (by omega) (by omega), if_pos rfl]
  have e2 : ys = ys.take d ++ [el ys d] := by
    have := take_snoc ys d (by omega)
    rw [← this, List.take_of_length_le (by omega)]
  refine ⟨?_, e1⟩
  have h1 : (el hs 0 :: ys.take d).Perm (ys.take d ++ [el ys d]) := by rw [e1]; exact (List.perm_append_singleton _ _).symm
  rw [← e2] at h1
  exact h1.trans (hp.trans (swap_perm (by omega) (by omega)))
theorem heap_take {n d : Nat} {ys : List Bt} (h : HeapN d ys) : HeapN d (ys.take d) := fun j h0 hj => by
  have hp : par j < d := by unfold par; omega
  rw [el_take _ _ _ hj, el_take _ _ _ hp]
  exact h j h0 hj
theorem kid_cases {i k : Nat} (h0 : 0 < k) (hp : par k = i) : k = 2 * i + 1 ∨ k = 2 * i + 2 := by unfold par at hp; omega
theorem best_r {m i j1 j2 : Nat} {ys : List Bt} (e1 : j1 = 2 * i + 1) (e2 : j2 = 2 * i + 2) (ha : Ahead (el ys j2) (el ys j1)) : ∀ k, 0 < k → k < m → par k = i → ¬Ahead (el ys k) (el ys j2) := fun k h0 hk hp => by
  rcases kid_cases h0 hp with h | h
  · rw [h, ← e1]; exact ahead_not ha
  · rw [h, ← e2]; exact ahead_irr _
theorem best_l {m i j1 j2 : Nat} {ys : List Bt} (e1 : j1 = 2 * i + 1) (e2 : j2 = 2 * i + 2) (ha : j2 < m → ¬Ahead (el ys j2) (el ys j1)) : ∀ k, 0 < k → k < m → par k = i → ¬Ahead (el ys k) (el ys j1) := fun k h0 hk hp => by
  rcases kid_cases h0 hp with h | h
  · rw [h, ← e1]; exact ahead_irr _
  · rw [h, ← e2]; exact ha (by omega)
theorem down_leaf0 {m i : Nat} {ys : List Bt} (h : DownInv m i ys) (hj : m ≤ 2 * i + 1) : HeapN m ys := down_done h fun k h0 hk hp => by
  rcases kid_cases h0 hp with h9 | h9 <;> omega
theorem down_leaf {m i j : Nat} {ys : List Bt} (h : DownInv m i ys) (hb : ∀ k, 0 < k → k < m → par k = i → ¬Ahead (el ys k) (el ys j)) (hn : ¬Ahead (el ys j) (el ys i)) : HeapN m ys :=
  down_done h fun k h0 hk hp => not_ahead_trans hn (hb k h0 hk hp)
theorem par_kid {i j : Nat} (h : j = 2 * i + 1 ∨ j = 2 * i + 2) : par j = i := by unfold par; omega
theorem heap_top {n : Nat} {hs : List Bt} (h : HeapN n hs) : ∀ k, k < n → ¬Ahead (el hs k) (el hs 0) := by
  intro k
  induction k using Nat.strongRecOn with
  | _ k ih =>
    intro hk
    rcases Nat.eq_zero_or_pos k with h0 | h0
    · subst h0; exact ahead_irr _
    · have hp : par k < k := by unfold par; omega
      exact not_ahead_trans (ih (par k) hp (by omega)) (h k h0 hk)
end Go.Proofs.Ytielahdnccocdaa

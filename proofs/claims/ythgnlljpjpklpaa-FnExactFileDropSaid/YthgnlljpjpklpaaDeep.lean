/-
  Files in memory: the rows of their pieces. No conditions; no program in sight.
-/
import Derived.Test.YthgnlljpjpklpaaPT
namespace Go.Proofs.Ythgnlljpjpklpaa
open Go Go.RowKit
set_option linter.unusedVariables false
set_option linter.unusedSimpArgs false

/-- the pieces of files read as told; their rows lie below block B, from block 'base' on, and in none of the blocks X -/
def DX (base B : Nat) (X : List Nat) (w : World) (hs : List Fl) : Prop := ∀ k, k < hs.length → RS encI 1 w B (el hs k).A (el hs k).n (el hs k).ps ∧ (0 < (el hs k).n → base ≤ (adr (el hs k).A).block ∧ (adr (el hs k).A).block ∉ X)
/-- the same, each row being the call's own, and no two of them in one block -/
structure DOw (base B : Nat) (X : List Nat) (e : TypeId) (w : World) (hs : List Fl) : Prop where
  own : ∀ k, k < hs.length → Own encI 1 w base e (.slice (el hs k).A (el hs k).n (el hs k).c) (el hs k).ps
  off : ∀ k, k < hs.length → ∀ s ∈ obl (.slice (el hs k).A (el hs k).n (el hs k).c), s ∉ X ∧ s < B
  dj : ∀ i j, i < hs.length → j < hs.length → i ≠ j → ∀ s ∈ obl (.slice (el hs i).A (el hs i).n (el hs i).c), s ∉ obl (.slice (el hs j).A (el hs j).n (el hs j).c)

theorem obl_sl (A : Option Addr) (n m c : Nat) : obl (.slice A n c) = obl (.slice A m c) := by cases A <;> rfl
theorem obl_eq {A : Option Addr} {n c s : Nat} (h : s ∈ obl (.slice A n c)) : s = (adr A).block := by
  cases A with
  | none => simp [obl, Value.ownBlock] at h
  | some a => simpa [obl, Value.ownBlock, adr] using h
theorem obl_of {a : Addr} {n c : Nat} : a.block ∈ obl (.slice (some a) n c) := by simp [obl, Value.ownBlock]

section
variable {base base' B B' : Nat} {X Y S : List Nat} {e : TypeId} {w w' : World} {hs : List Fl}
theorem RS.chS {α : Type} [Inhabited α] {enc : α → List Value} {z : Nat} {A : Option Addr} {n : Nat} {xs : List α} (h : RS enc z w B A n xs) (hc : Ch S w w') (hn : 0 < n → (adr A).block ∉ S) : RS enc z w' B A n xs :=
  ⟨h.len, fun k hk => by
    obtain ⟨h1, h2, h3⟩ := h.at_ k hk
    exact ⟨h1, h2, fun j v hv => hc.cell (h3 j v hv) (by rw [add_block]; exact hn (by omega))⟩⟩
theorem DX.ch (h : DX base B X w hs) (hc : Ch S w w') (hn : ∀ s ∈ S, s < base ∨ s ∈ X ∨ B ≤ s) : DX base B X w' hs := fun k hk => by
  obtain ⟨h1, h2⟩ := h k hk
  refine ⟨h1.chS hc fun h0 hm => ?_, h2⟩
  have := (h1.at_ 0 h0).2.1
  obtain ⟨a, b⟩ := h2 h0
  rcases hn _ hm with h9 | h9 | h9
  · omega
  · exact b h9
  · omega
theorem DX.ch0 (h : DX base B X w hs) (hc : Ch [] w w') : DX base B X w' hs := h.ch hc (fun s h => by cases h)
theorem DX.more (h : DX base B X w hs) (hB : B ≤ B') : DX base B' X w hs := fun k hk => ⟨(h k hk).1.more hB, (h k hk).2⟩
theorem DX.less (h : DX base B X w hs) (hB : base' ≤ base) : DX base' B X w hs := fun k hk => ⟨(h k hk).1, fun h0 => ⟨Nat.le_trans hB ((h k hk).2 h0).1, ((h k hk).2 h0).2⟩⟩
theorem DX.rex (h : DX base B X w hs) (hX : ∀ s ∈ Y, s ∈ X ∨ B ≤ s) : DX base B Y w hs := fun k hk => by
  obtain ⟨h1, h2⟩ := h k hk
  refine ⟨h1, fun h0 => ⟨(h2 h0).1, fun hm => ?_⟩⟩
  have := (h1.at_ 0 h0).2.1
  rcases hX _ hm with h9 | h9
  · exact (h2 h0).2 h9
  · omega
theorem DX.any (h : DX base B X w hs) (hB : B ≤ B') : DX 0 B' [] w hs := ((h.more hB).less (Nat.zero_le _)).rex (fun s h => by cases h)
theorem DX.nil : DX base B X w [] := fun k hk => by simp at hk
theorem DX.rs (h : DX base B X w hs) {k : Nat} (hk : k < hs.length) : RS encI 1 w B (el hs k).A (el hs k).n (el hs k).ps := (h k hk).1
theorem DX.take (h : DX base B X w hs) (m : Nat) : DX base B X w (hs.take m) := fun k hk => by
  rw [List.length_take] at hk
  rw [el_take _ _ _ (by omega)]
  exact h k (by omega)
theorem DX.drop (h : DX base B X w hs) (m : Nat) : DX base B X w (hs.drop m) := fun k hk => by
  rw [List.length_drop] at hk
  rw [el_drop]
  exact h (m + k) (by omega)
theorem el_appF {α : Type} [Inhabited α] (a b : List α) (k : Nat) : el (a ++ b) k = if k < a.length then el a k else el b (k - a.length) := by
  unfold el
  simp only [List.getD_eq_getElem?_getD]
  by_cases h : k < a.length
  · rw [if_pos h, List.getElem?_append_left h]
  · rw [if_neg h, List.getElem?_append_right (by omega)]
theorem DX.app {gs : List Fl} (h : DX base B X w hs) (k : DX base B X w gs) : DX base B X w (hs ++ gs) := fun i hi => by
  rw [List.length_append] at hi
  rw [el_appF]
  split
  · exact h i (by assumption)
  · exact k _ (by omega)
theorem DX.snoc (h : DX base B X w hs) {f : Fl} (hf : RS encI 1 w B f.A f.n f.ps) (h0 : 0 < f.n → base ≤ (adr f.A).block ∧ (adr f.A).block ∉ X) : DX base B X w (hs ++ [f]) := h.app fun i hi => by
  obtain rfl : i = 0 := by simpa using hi
  exact ⟨hf, h0⟩
theorem DX.set (h : DX base B X w hs) {f : Fl} (j : Nat) (hf : RS encI 1 w B f.A f.n f.ps) (h0 : 0 < f.n → base ≤ (adr f.A).block ∧ (adr f.A).block ∉ X) : DX base B X w (hs.set j f) := fun i hi => by
  rw [List.length_set] at hi
  by_cases e : i = j
  · subst e
    rw [el_set _ _ _ _ hi, if_pos rfl]
    exact ⟨hf, h0⟩
  · have : el (hs.set j f) i = el hs i := by
      unfold el
      simp only [List.getD_eq_getElem?_getD]
      rw [List.getElem?_set_ne (by omega)]
    rw [this]
    exact h i hi

theorem DOw.dx (h : DOw base B X e w hs) : DX base B X w hs := fun k hk => by
  have ho := h.own k hk
  have hr := ho.rs (fun _ => rfl)
  have key : 0 < (el hs k).n → (adr (el hs k).A).block ∈ obl (.slice (el hs k).A (el hs k).n (el hs k).c) := fun h0 => by rw [(hr.at_ 0 h0).1]; exact obl_of
  refine ⟨⟨hr.len, fun j hj => ?_⟩, fun h0 => ⟨ho.off _ (key h0), (h.off k hk _ (key h0)).1⟩⟩
  obtain ⟨h1, h2, h3⟩ := hr.at_ j hj
  exact ⟨h1, (h.off k hk _ (key (by omega))).2, h3⟩
theorem DOw.ch (h : DOw base B X e w hs) (hc : Ch S w w') (hn : ∀ s ∈ S, s < base ∨ s ∈ X ∨ B ≤ s) : DOw base B X e w' hs :=
  ⟨fun k hk => (h.own k hk).ch hc (fun s h1 h2 => by
    have a := (h.own k hk).off s h1
    have b := h.off k hk s h1
    rcases hn s h2 with h9 | h9 | h9
    · omega
    · exact b.1 h9
    · omega), h.off, h.dj⟩
theorem DOw.ch0 (h : DOw base B X e w hs) (hc : Ch [] w w') : DOw base B X e w' hs := h.ch hc (fun s h => by cases h)
theorem DOw.more (h : DOw base B X e w hs) (hB : B ≤ B') : DOw base B' X e w hs := ⟨h.own, fun k hk s hs => ⟨(h.off k hk s hs).1, Nat.lt_of_lt_of_le (h.off k hk s hs).2 hB⟩, h.dj⟩
theorem DOw.less (h : DOw base B X e w hs) (hB : base' ≤ base) : DOw base' B X e w hs := ⟨fun k hk => (h.own k hk).less hB, h.off, h.dj⟩
theorem DOw.rex (h : DOw base B X e w hs) (hX : ∀ s ∈ Y, s ∈ X ∨ B ≤ s) : DOw base B Y e w hs := ⟨h.own, fun k hk s h1 => by
  obtain ⟨a, b⟩ := h.off k hk s h1
  refine ⟨fun hm => ?_, b⟩
  rcases hX s hm with h9 | h9
  · exact a h9
  · omega, h.dj⟩
theorem DOw.any (h : DOw base B X e w hs) (hB : B ≤ B') : DX 0 B' [] w hs := h.dx.any hB
theorem DOw.nil : DOw base B X e w [] := ⟨fun k hk => by simp at hk, fun k hk => by simp at hk, fun i j hi => by simp at hi⟩
theorem DOw.rs (h : DOw base B X e w hs) {k : Nat} (hk : k < hs.length) : RS encI 1 w B (el hs k).A (el hs k).n (el hs k).ps := (h.dx k hk).1
/-- two such lists, one behind the other -/
theorem DOw.app {gs : List Fl} (h : DOw base B X e w hs) (k : DOw base B X e w gs) (hd : ∀ i j, i < hs.length → j < gs.length → ∀ s ∈ obl (.slice (el hs i).A (el hs i).n (el hs i).c), s ∉ obl (.slice (el gs j).A (el gs j).n (el gs j).c)) : DOw base B X e w (hs ++ gs) := by
  refine ⟨fun i hi => ?_, fun i hi => ?_, fun i j hi hj hij => ?_⟩
  · rw [List.length_append] at hi
    rw [el_appF]
    split
    · exact h.own i (by assumption)
    · exact k.own _ (by omega)
  · rw [List.length_append] at hi
    rw [el_appF]
    split
    · exact h.off i (by assumption)
    · exact k.off _ (by omega)
  · rw [List.length_append] at hi hj
    rw [el_appF, el_appF]
    split <;> split
    · exact h.dj i j (by assumption) (by assumption) hij
    · exact hd i _ (by assumption) (by omega)
    · intro s h1 h2
      exact hd j (i - hs.length) (by assumption) (by omega) s h2 h1
    · exact k.dj _ _ (by omega) (by omega) (by omega)
theorem DOw.one {f : Fl} (hf : Own encI 1 w base e (.slice f.A f.n f.c) f.ps) (hx : ∀ s ∈ obl (.slice f.A f.n f.c), s ∉ X ∧ s < B) : DOw base B X e w [f] := by
  refine ⟨fun i hi => ?_, fun i hi => ?_, fun i j hi hj hij => ?_⟩
  · obtain rfl : i = 0 := by simpa using hi
    exact hf
  · obtain rfl : i = 0 := by simpa using hi
    exact hx
  · simp at hi hj
    omega
/-- a further file, its row being newer than B -/
theorem DOw.snoc (h : DOw base B X e w hs) {f : Fl} (hf : Own encI 1 w base e (.slice f.A f.n f.c) f.ps) (hx : ∀ s ∈ obl (.slice f.A f.n f.c), s ∉ X ∧ B ≤ s ∧ s < B') (hB : B ≤ B') : DOw base B' X e w (hs ++ [f]) :=
  (h.more hB).app (DOw.one hf (fun s h1 => ⟨(hx s h1).1, (hx s h1).2.2⟩)) (fun i j hi hj s h1 h2 => by
    obtain rfl : j = 0 := by simpa using hj
    have a := (h.off i hi s h1).2
    have b := (hx s h2).2.1
    omega)
/-- lists of two times: the second is newer than B -/
theorem DOw.app2 {gs : List Fl} {b2 : Nat} (h : DOw base B X e w hs) (k : DOw b2 B' X e w gs) (h1 : B ≤ b2) (h2 : base ≤ b2) (h3 : B ≤ B') : DOw base B' X e w (hs ++ gs) :=
  (h.more h3).app (k.less h2) (fun i j hi hj s h1' h2' => by
    have a := (h.off i hi s h1').2
    have b := (k.own j hj).off s h2'
    omega)
theorem DOw.take (h : DOw base B X e w hs) (m : Nat) : DOw base B X e w (hs.take m) := by
  refine ⟨fun i hi => ?_, fun i hi => ?_, fun i j hi hj hij => ?_⟩
  · rw [List.length_take] at hi; rw [el_take _ _ _ (by omega)]; exact h.own i (by omega)
  · rw [List.length_take] at hi; rw [el_take _ _ _ (by omega)]; exact h.off i (by omega)
  · rw [List.length_take] at hi hj; rw [el_take _ _ _ (by omega), el_take _ _ _ (by omega)]; exact h.dj i j (by omega) (by omega) hij
theorem DOw.drop (h : DOw base B X e w hs) (m : Nat) : DOw base B X e w (hs.drop m) := by
  refine ⟨fun i hi => ?_, fun i hi => ?_, fun i j hi hj hij => ?_⟩
  · rw [List.length_drop] at hi; rw [el_drop]; exact h.own _ (by omega)
  · rw [List.length_drop] at hi; rw [el_drop]; exact h.off _ (by omega)
  · rw [List.length_drop] at hi hj; rw [el_drop, el_drop]; exact h.dj _ _ (by omega) (by omega) (by omega)
theorem el_setF {α : Type} [Inhabited α] (l : List α) (j : Nat) (y : α) (i : Nat) (hj : j < l.length) : el (l.set j y) i = if i = j then y else el l i := by
  by_cases e : i = j
  · subst e
    rw [if_pos rfl, el_eq (by simpa using hj)]
    simp
  · rw [if_neg e]
    unfold el
    simp only [List.getD_eq_getElem?_getD]
    rw [List.getElem?_set_ne (by omega)]
/-- another row for file j -/
theorem DOw.set (h : DOw base B X e w hs) {f : Fl} {j : Nat} (hj : j < hs.length) (hf : Own encI 1 w base e (.slice f.A f.n f.c) f.ps) (hx : ∀ s ∈ obl (.slice f.A f.n f.c), s ∉ X ∧ s < B) (hd : ∀ i, i < hs.length → i ≠ j → ∀ s ∈ obl (.slice f.A f.n f.c), s ∉ obl (.slice (el hs i).A (el hs i).n (el hs i).c)) : DOw base B X e w (hs.set j f) := by
  refine ⟨fun i hi => ?_, fun i hi => ?_, fun i k hi hk hik => ?_⟩
  · rw [List.length_set] at hi; rw [el_setF _ _ _ _ hj]; split
    · exact hf
    · exact h.own i hi
  · rw [List.length_set] at hi; rw [el_setF _ _ _ _ hj]; split
    · exact hx
    · exact h.off i hi
  · rw [List.length_set] at hi hk
    rw [el_setF _ _ _ _ hj, el_setF _ _ _ _ hj]
    split <;> split
    · omega
    · exact hd k hk (by assumption)
    · intro s h1 h2; exact hd i hi (by assumption) s h2 h1
    · exact h.dj i k hi hk hik
end
theorem fvs_set {hs : List Fl} {j : Nat} {f : Fl} : fvs (hs.set j f) = (fvs hs).set j (fv f) := List.map_set ..
/-- the sizes of names and pieces are moderate -/
def SzOK (hs : List Fl) : Prop := ∀ k, k < hs.length → (el hs k).nm.size ≤ 1099511627776 ∧ (el hs k).n ≤ 1099511627776
theorem SzOK.nil : SzOK [] := fun k hk => by simp at hk
theorem SzOK.take {hs : List Fl} (h : SzOK hs) (m : Nat) : SzOK (hs.take m) := fun k hk => by
  rw [List.length_take] at hk; rw [el_take _ _ _ (by omega)]; exact h k (by omega)
theorem SzOK.drop {hs : List Fl} (h : SzOK hs) (m : Nat) : SzOK (hs.drop m) := fun k hk => by
  rw [List.length_drop] at hk; rw [el_drop]; exact h _ (by omega)
theorem SzOK.app {hs gs : List Fl} (h : SzOK hs) (k : SzOK gs) : SzOK (hs ++ gs) := fun i hi => by
  rw [List.length_append] at hi
  rw [el_appF]
  split
  · exact h i (by assumption)
  · exact k _ (by omega)
theorem SzOK.one {f : Fl} (h1 : f.nm.size ≤ 1099511627776) (h2 : f.n ≤ 1099511627776) : SzOK [f] := fun i hi => by
  obtain rfl : i = 0 := by simpa using hi
  exact ⟨h1, h2⟩
theorem SzOK.set {hs : List Fl} (h : SzOK hs) {f : Fl} (j : Nat) (h1 : f.nm.size ≤ 1099511627776) (h2 : f.n ≤ 1099511627776) : SzOK (hs.set j f) := fun i hi => by
  rw [List.length_set] at hi
  by_cases e : i = j
  · subst e; rw [el_setF _ _ _ _ hi, if_pos rfl]; exact ⟨h1, h2⟩
  · have : el (hs.set j f) i = el hs i := by
      unfold el
      simp only [List.getD_eq_getElem?_getD]
      rw [List.getElem?_set_ne (by omega)]
    rw [this]; exact h i hi
theorem DOw.as {base base' B B' n m c e : Nat} {A : Option Addr} {w : World} {hs : List Fl} (h : DOw base B (obl (.slice A n c)) e w hs) (h1 : base' ≤ base) (h2 : B ≤ B') : DOw base' B' (obl (.slice A m c)) e w hs := by
  rw [obl_sl A m n c]
  exact (h.less h1).more h2
theorem tree_node {T : TypeId} {base : Nat} {w : World} {t : PT} {p : Option Addr} (h : t.OK T base w p) (hp : (!p.isNone) = true) : ∃ g m l r pl pr, p = some ⟨g, 0, none⟩ ∧ t = .node g m l r ∧ Blk w g T [.int .i64 m, .pointer pl, .pointer pr] ∧ l.OK T base w pl ∧ r.OK T base w pr ∧ base ≤ g ∧ (∀ y ∈ l.nums, y < m) ∧ (∀ y ∈ r.nums, m < y) := by
  cases t with
  | leaf => have := h.is; simp only [PT.Is] at this; rw [this] at hp; simp at hp
  | node g m l r =>
    obtain ⟨h0, pl, pr, hb, hl, hr⟩ := h.is
    have hnd := h.nd
    simp only [PT.blks, List.nodup_cons, List.nodup_append] at hnd
    obtain ⟨o1, o2, o3, o4⟩ := h.ord
    exact ⟨g, m, l, r, pl, pr, h0, rfl, hb, ⟨hl, hnd.2.1, fun s hs => h.off s (by simp [PT.blks, hs]), o3⟩, ⟨hr, hnd.2.2.1, fun s hs => h.off s (by simp [PT.blks, hs]), o4⟩, h.off g (by simp [PT.blks]), o1, o2⟩
theorem tree_leaf {T : TypeId} {base : Nat} {w : World} {t : PT} {p : Option Addr} (h : t.OK T base w p) (hp : (!p.isNone) = false) : p = none ∧ t = .leaf := by
  cases t with
  | leaf => exact ⟨h.is, rfl⟩
  | node g m l r =>
    obtain ⟨h0, _⟩ := h.is
    rw [h0] at hp; simp at hp
theorem tree_step {t2 t3 : PT} {b2 b3 b4 : Bool} {L ps : List Int} {j : Nat} (hj : j < ps.length) (hn : ∀ y, y ∈ t2.nums ↔ y ∈ L ++ ps.take j) (hb : b2 = true ↔ (L ++ ps.take j).Nodup) (hn3 : ∀ y, y ∈ t3.nums ↔ y = el ps j ∨ y ∈ t2.nums) (hb3 : b4 = true ↔ el ps j ∉ t2.nums) (h : b3 = (b2 && b4)) :
    (∀ y, y ∈ t3.nums ↔ y ∈ L ++ ps.take (j + 1)) ∧ (b3 = true ↔ (L ++ ps.take (j + 1)).Nodup) := by
  have e : L ++ ps.take (j + 1) = (L ++ ps.take j) ++ [el ps j] := by rw [take_snoc ps j hj, List.append_assoc]
  rw [e]
  refine ⟨fun y => ?_, ?_⟩
  · rw [hn3, hn, List.mem_append (t := [el ps j]), List.mem_singleton]
    exact ⟨fun h => h.symm, fun h => h.symm⟩
  · subst h
    have hna := @List.nodup_append _ (L ++ ps.take j) [el ps j]
    rw [Bool.and_eq_true, hb, hb3, hn, hna]
    constructor
    · rintro ⟨h1, h2⟩
      exact ⟨h1, by simp, fun a ha b hb e => by simp at hb; subst hb; exact h2 (e ▸ ha)⟩
    · rintro ⟨h1, _, h3⟩
      exact ⟨h1, fun h => h3 _ h _ (by simp) rfl⟩
theorem files_once {hs : List Fl} {b : Bool} (hb : b = true ↔ (pcs (fvs hs)).Nodup) (h8 : hs.length ≤ 8) (h : ∀ q, q < hs.length → FileOK (fv (el hs q)) ∧ ∀ j, j + 1 = q → slt (el hs j).nm (el hs q).nm = true) : b = dec (FOK (fvs hs)) := by
  have key : FOK (fvs hs) ↔ (pcs (fvs hs)).Nodup := ⟨fun h => h.once, fun h2 => ⟨by rw [fvs_len]; exact h8, fun i hi => by rw [fvs_len] at hi; rw [el_fvs hi]; exact (h i hi).1,
    fun i j hij hi => by rw [fvs_len] at hi; rw [el_fvs hi, el_fvs (by omega)]; exact (h i hi).2 j hij, h2⟩⟩
  cases b with
  | true => exact (dec_yes (key.2 (hb.1 rfl))).symm
  | false => exact (dec_no fun h9 => by have := hb.2 (key.1 h9); cases this).symm
theorem many_next {hs : List Fl} {i : Nat} {x : Int} (hi : i < hs.length) : many ((fvs hs).take (i + 1)) x = many ((fvs hs).take i) x + (el hs i).ps.count x := by
  unfold many
  rw [pcs_take (by rw [fvs_len]; exact hi), el_fvs hi, List.count_append]
  rfl
theorem count_next {ps : List Int} {j : Nat} {x : Int} (hj : j < ps.length) : (ps.take (j + 1)).count x = (ps.take j).count x + if el ps j = x then 1 else 0 := by
  rw [take_snoc ps j hj, List.count_append, List.count_singleton]
  by_cases h : el ps j = x <;> simp [h]
theorem many_take_bd {hs : List Fl} {B : Nat} {w : World} {x : Int} (h : SzOK hs) (hD : DX 0 B [] w hs) : ∀ i, i ≤ hs.length → many ((fvs hs).take i) x ≤ i * 1099511627776 := by
  intro i
  induction i with
  | zero => intro _; simp [many, pcs]
  | succ i ih =>
    intro hi
    rw [many_next (by omega)]
    have h1 := ih (by omega)
    have h2 := List.count_le_length (a := x) (l := (el hs i).ps)
    have h3 := (h i (by omega)).2
    have h4 := (hD i (by omega)).1.len
    omega
theorem files_not {hs : List Fl} {B : Nat} {w : World} (h : FOK (fvs hs)) (hD : DX 0 B [] w hs) (k : Nat) (hk : k < hs.length)
    (hn : ¬NameOK (el hs k).nm ∨ (∃ i, i + 1 = k ∧ slt (el hs i).nm (el hs k).nm = false) ∨ 4 < (el hs k).n ∨ ∃ j, j < (el hs k).n ∧ (¬(1 ≤ el (el hs k).ps j ∧ el (el hs k).ps j ≤ 99) ∨ many (fvs hs) (el (el hs k).ps j) ≠ 1)) : False := by
  have hl := (hD k hk).1.len
  have hf := h.file k (by rw [fvs_len]; exact hk)
  rw [el_fvs hk] at hf
  rcases hn with h1 | ⟨i, h1, h2⟩ | h1 | ⟨j, hj, h1 | h1⟩
  · exact h1 hf.1
  · have := h.asc k i h1 (by rw [fvs_len]; exact hk)
    rw [el_fvs hk, el_fvs (by omega)] at this
    simp only [fv] at this
    rw [this] at h2
    cases h2
  · have := hf.2.1
    simp only [fv] at this
    omega
  · exact h1 (hf.2.2 j (by simp only [fv]; omega))
  · have := many_one h.once (i := k) (k := j) (by rw [fvs_len]; exact hk) (by rw [el_fvs hk]; simp only [fv]; omega)
    rw [el_fvs hk] at this
    exact h1 this
theorem files_all {hs : List Fl} {B n : Nat} {w : World} (hD : DX 0 B [] w hs) (hn : hs.length ≤ n ∧ n ≤ hs.length)
    (h : ∀ q, q < n → (NameOK (el hs q).nm ∧ (el hs q).n ≤ 4 ∧ ∀ j, j < (el hs q).n → (1 ≤ el (el hs q).ps j ∧ el (el hs q).ps j ≤ 99) ∧ many (fvs hs) (el (el hs q).ps j) = 1) ∧ ∀ j, j + 1 = q → slt (el hs j).nm (el hs q).nm = true) : (n : Int) ≤ 8 ↔ FOK (fvs hs) := by
  constructor
  · intro h8
    refine ⟨by rw [fvs_len]; omega, fun i hi => ?_, fun i j hij hi => ?_, once_of fun i hi k hk => ?_⟩
    · rw [fvs_len] at hi
      obtain ⟨⟨a, b, c⟩, d⟩ := h i (by omega)
      have hl := (hD i hi).1.len
      rw [el_fvs hi]
      exact ⟨a, by simp only [fv]; omega, fun k hk => (c k (by simp only [fv] at hk; omega)).1⟩
    · rw [fvs_len] at hi
      rw [el_fvs hi, el_fvs (by omega)]
      exact (h i (by omega)).2 j hij
    · rw [fvs_len] at hi
      have hl := (hD i hi).1.len
      rw [el_fvs hi] at hk ⊢
      exact ((h i (by omega)).1.2.2 k (by simp only [fv] at hk; omega)).2
  · intro h9
    have := h9.len
    rw [fvs_len] at this
    omega
theorem place_bds (hs : List Fl) (s : ByteArray) : -1 ≤ fplace (fvs hs) s ∧ fplace (fvs hs) s < hs.length := by
  have := fplace_bd (fvs hs) s
  rw [fvs_len] at this
  exact this
def DXo (base : Nat) (X : List Nat) (w : World) (hs : List Fl) : Prop := ∃ B, B ≤ w.heap.size ∧ DX base B X w hs
theorem own_blk {w : World} {base e n c : Nat} {A : Option Addr} {ps : List Int} (h : Own encI 1 w base e (.slice A n c) ps) (h0 : 0 < n) : (adr A).block ∈ obl (.slice A n c) := by
  rw [((h.rs (fun _ => rfl)).at_ 0 h0).1]; exact obl_of
theorem DX.snocO {base base' B e n c : Nat} {X : List Nat} {w : World} {hs : List Fl} {A : Option Addr} {ps : List Int} (h : DX base B X w hs) (nm : ByteArray) (ho : Own encI 1 w base' e (.slice A n c) ps) (h1 : base ≤ base') (h2 : B ≤ w.heap.size) (hd : ∀ s ∈ obl (.slice A n c), s ∉ X) :
    DX base w.heap.size X w (hs ++ [⟨nm, A, n, c, ps⟩]) :=
  (h.more h2).snoc (f := ⟨nm, A, n, c, ps⟩) (ho.rs (fun _ => rfl)) (fun h0 => ⟨Nat.le_trans h1 (ho.off _ (own_blk ho h0)), hd _ (own_blk ho h0)⟩)
theorem DX.setO {base base' B e n c : Nat} {X : List Nat} {w : World} {hs : List Fl} {A : Option Addr} {ps : List Int} (h : DX base B X w hs) (j : Nat) (nm : ByteArray) (ho : Own encI 1 w base' e (.slice A n c) ps) (h1 : base ≤ base') (h2 : B ≤ w.heap.size) (hd : ∀ s ∈ obl (.slice A n c), s ∉ X) :
    DX base w.heap.size X w (hs.set j ⟨nm, A, n, c, ps⟩) :=
  (h.more h2).set j (f := ⟨nm, A, n, c, ps⟩) (ho.rs (fun _ => rfl)) (fun h0 => ⟨Nat.le_trans h1 (ho.off _ (own_blk ho h0)), hd _ (own_blk ho h0)⟩)
theorem DX.bare {base B : Nat} {X : List Nat} {w : World} {hs : List Fl} (h : DX base B X w hs) (h2 : B ≤ w.heap.size) : DX base w.heap.size [] w hs := (h.more h2).rex (fun s h => by cases h)
theorem fvs_el {hs gs : List Fl} (h : fvs hs = fvs gs) {k : Nat} (hk : k < hs.length) : fv (el hs k) = fv (el gs k) := by
  have h1 := congrArg List.length h
  rw [fvs_len, fvs_len] at h1
  rw [← el_fvs hk, ← el_fvs (by omega), h]
theorem fvs_eq {hs gs : List Fl} (hl : hs.length = gs.length) (h : ∀ j, j < hs.length → fv (el hs j) = fv (el gs j)) : fvs hs = fvs gs :=
  eq_of_el (by rw [fvs_len, fvs_len]; exact hl) (fun j hj => by
    rw [fvs_len] at hj
    rw [el_fvs hj, el_fvs (by omega)]
    exact h j hj)
def DOo (base : Nat) (X : List Nat) (e : Nat) (w : World) (hs : List Fl) : Prop := ∃ B, B ≤ w.heap.size ∧ DOw base B X e w hs
theorem DOw.zero {base B : Nat} {X : List Nat} {e : Nat} {w : World} (n : Nat) : DOw base B X e w (List.replicate n (default : Fl)) := by
  have hd : ∀ k, k < (List.replicate n (default : Fl)).length → el (List.replicate n (default : Fl)) k = default := fun k hk => by
    rw [el_eq hk]; simp
  refine ⟨fun k hk => ?_, fun k hk s h => ?_, fun i j hi hj hij s h => ?_⟩
  · rw [hd k hk]; exact Own.nil _ _ _ _ _
  · rw [hd k hk] at h; simp [obl, Value.ownBlock, default, instInhabitedFl] at h
  · rw [hd i hi] at h; simp [obl, Value.ownBlock, default, instInhabitedFl] at h
theorem SzOK.zero (n : Nat) : SzOK (List.replicate n (default : Fl)) := fun k hk => by
  rw [el_eq hk]; simp [default, instInhabitedFl]
theorem DOw.setN {base base' B B' e n c : Nat} {X : List Nat} {w : World} {hs : List Fl} {A : Option Addr} {ps : List Int} {j : Nat} (h : DOw base B X e w hs) (hj : j < hs.length) (nm : ByteArray) (ho : Own encI 1 w base' e (.slice A n c) ps) (h1 : base ≤ base') (h2 : B ≤ base') (h3 : w.heap.size ≤ B') (h4 : B ≤ B') (hd : ∀ s ∈ obl (.slice A n c), s ∉ X) :
    DOw base B' X e w (hs.set j ⟨nm, A, n, c, ps⟩) :=
  (h.more h4).set hj (f := ⟨nm, A, n, c, ps⟩) (ho.less h1) (fun s hs => ⟨hd s hs, Nat.lt_of_lt_of_le (ho.lt s hs) h3⟩) (fun i hi _ s h5 h6 => by
    have := (h.off i hi s h6).2
    have := ho.off s h5
    omega)
theorem DOw.snocN {base base' B B' e n c : Nat} {X : List Nat} {w : World} {hs : List Fl} {A : Option Addr} {ps : List Int} (h : DOw base B X e w hs) (nm : ByteArray) (ho : Own encI 1 w base' e (.slice A n c) ps) (h1 : base ≤ base') (h2 : B ≤ base') (h3 : w.heap.size ≤ B') (h4 : B ≤ B') (hd : ∀ s ∈ obl (.slice A n c), s ∉ X) :
    DOw base B' X e w (hs ++ [⟨nm, A, n, c, ps⟩]) :=
  h.snoc (f := ⟨nm, A, n, c, ps⟩) (ho.less h1) (fun s hs => ⟨hd s hs, Nat.le_trans h2 (ho.off s hs), Nat.lt_of_lt_of_le (ho.lt s hs) h3⟩) h4
theorem nums_node {g : Nat} {m x : Int} {l r : PT} : x ∈ (PT.node g m l r).nums ↔ x = m ∨ x ∈ l.nums ∨ x ∈ r.nums := by simp [PT.nums]
end Go.Proofs.Ythgnlljpjpklpaa

/-
  Plain: files, their names and pieces. No conditions; no program in sight.
-/
import Derived.Test.YthgnlljpjpklpaaKinds
import Derived.Test.YthgnlljpjpklpaaBeats
namespace Go.Proofs.Ythgnlljpjpklpaa
open Go Go.RowKit
set_option linter.unusedVariables false

/-- a file in memory: its name, where its pieces lie, and what they are -/
structure Fl where
  nm : ByteArray
  A : Option Addr
  n : Nat
  c : Nat
  ps : List Int
instance : Inhabited Fl := ⟨⟨ByteArray.empty, none, 0, 0, []⟩⟩
def encF (f : Fl) : List Value := [.string f.nm, .slice f.A f.n f.c]
def encS (s : ByteArray) : List Value := [.string s]
abbrev FV := ByteArray × List Int
def fv (f : Fl) : FV := (f.nm, f.ps)
def fvs (hs : List Fl) : List FV := hs.map fv
theorem fvs_len (hs : List Fl) : (fvs hs).length = hs.length := List.length_map ..
theorem el_fvs {hs : List Fl} {k : Nat} (h : k < hs.length) : el (fvs hs) k = fv (el hs k) := by
  rw [el_eq (by rw [fvs_len]; exact h), el_eq h]; simp [fvs]
theorem fvs_app (a b : List Fl) : fvs (a ++ b) = fvs a ++ fvs b := List.map_append
theorem fvs_take (a : List Fl) (k : Nat) : fvs (a.take k) = (fvs a).take k := List.map_take ..
theorem fvs_drop (a : List Fl) (k : Nat) : fvs (a.drop k) = (fvs a).drop k := List.map_drop ..

/-! names -/
def slt (a b : ByteArray) : Bool := Op.bytesLess a.toList b.toList
theorem bl_trans : ∀ {x y z : List UInt8}, Op.bytesLess x y = true → Op.bytesLess y z = true → Op.bytesLess x z = true := by
  intro x
  induction x with
  | nil =>
    intro y z h k
    cases y with
    | nil => simp [Op.bytesLess] at h
    | cons b y => cases z with
      | nil => simp [Op.bytesLess] at k
      | cons c z => simp [Op.bytesLess]
  | cons a x ih =>
    intro y z h k
    cases y with
    | nil => simp [Op.bytesLess] at h
    | cons b y => cases z with
      | nil => simp [Op.bytesLess] at k
      | cons c z =>
        simp only [Op.bytesLess, Bool.or_eq_true, Bool.and_eq_true, decide_eq_true_eq, beq_iff_eq, UInt8.lt_iff_toNat_lt] at h k ⊢
        rcases h with h | ⟨rfl, h⟩ <;> rcases k with k | ⟨rfl, k⟩
        · left; omega
        · left; exact h
        · left; exact k
        · right; exact ⟨rfl, ih h k⟩
theorem bl_irr : ∀ x : List UInt8, Op.bytesLess x x = false := by
  intro x
  induction x with
  | nil => simp [Op.bytesLess]
  | cons a x ih => simp [Op.bytesLess, ih]
theorem slt_trans {a b c : ByteArray} (h : slt a b = true) (k : slt b c = true) : slt a c = true := bl_trans h k
theorem slt_irr (a : ByteArray) : slt a a = false := bl_irr _
theorem slt_asym {a b : ByteArray} (h : slt a b = true) : slt b a = false := by
  cases e : slt b a with
  | false => rfl
  | true => have := slt_trans h e; rw [slt_irr] at this; cases this
def by8 (s : ByteArray) (j : Nat) : Nat := (s.data.toList.getD j 0).toNat

/-! valid files -/
def NameOK (s : ByteArray) : Prop := (1 ≤ s.size ∧ s.size ≤ 6) ∧ ∀ j, j < s.size → 97 ≤ by8 s j ∧ by8 s j ≤ 122
def IdsIn (ps : List Int) : Prop := ∀ k, k < ps.length → 1 ≤ el ps k ∧ el ps k ≤ 99
def FileOK (f : FV) : Prop := NameOK f.1 ∧ f.2.length ≤ 4 ∧ IdsIn f.2
def pcs (fs : List FV) : List Int := fs.flatMap (·.2)
structure FOK (fs : List FV) : Prop where
  len : fs.length ≤ 8
  file : ∀ i, i < fs.length → FileOK (el fs i)
  asc : ∀ i j, j + 1 = i → i < fs.length → slt (el fs j).1 (el fs i).1 = true
  once : (pcs fs).Nodup
theorem pcs_app (a b : List FV) : pcs (a ++ b) = pcs a ++ pcs b := List.flatMap_append
theorem pcs_take {fs : List FV} {k : Nat} (h : k < fs.length) : pcs (fs.take (k + 1)) = pcs (fs.take k) ++ (el fs k).2 := by
  rw [take_snoc fs k h, pcs_app]; simp [pcs]
theorem mem_pcs {fs : List FV} {x : Int} : x ∈ pcs fs ↔ ∃ i, i < fs.length ∧ x ∈ (el fs i).2 := by
  unfold pcs
  rw [List.mem_flatMap]
  constructor
  · rintro ⟨f, hf, hx⟩
    obtain ⟨i, hi, rfl⟩ := mem_el.1 hf
    exact ⟨i, hi, hx⟩
  · rintro ⟨i, hi, hx⟩
    exact ⟨_, el_mem hi, hx⟩
theorem asc_lt {fs : List FV} (h : ∀ i j, j + 1 = i → i < fs.length → slt (el fs j).1 (el fs i).1 = true) {i j : Nat} (hij : i < j) (hj : j < fs.length) : slt (el fs i).1 (el fs j).1 = true := by
  induction j with
  | zero => omega
  | succ j ih =>
    have h1 := h (j + 1) j rfl hj
    by_cases e : i = j
    · subst e; exact h1
    · exact slt_trans (ih (by omega) (by omega)) h1
/-- how often files have a piece -/
def many (fs : List FV) (x : Int) : Nat := (pcs fs).count x
theorem many_one {fs : List FV} (h : (pcs fs).Nodup) {i k : Nat} (hi : i < fs.length) (hk : k < (el fs i).2.length) : many fs (el (el fs i).2 k) = 1 := by
  have h1 := (List.nodup_iff_count.1 h) (el (el fs i).2 k)
  have h2 := List.count_pos_iff.2 (mem_pcs.2 ⟨i, hi, el_mem hk⟩)
  unfold many
  omega
theorem once_of {fs : List FV} (h : ∀ i, i < fs.length → ∀ k, k < (el fs i).2.length → many fs (el (el fs i).2 k) = 1) : (pcs fs).Nodup := by
  rw [List.nodup_iff_count]
  intro x
  by_cases hx : x ∈ pcs fs
  case neg => rw [List.count_eq_zero_of_not_mem hx]; omega
  obtain ⟨i, hi, hx⟩ := mem_pcs.1 hx
  obtain ⟨k, hk, rfl⟩ := mem_el.1 hx
  exact Nat.le_of_eq (h i hi k hk)

/-! the place of a name -/
noncomputable def fplace (fs : List FV) (s : ByteArray) : Int :=
  open Classical in if h : ∃ k : Nat, k < fs.length ∧ (el fs k).1 = s ∧ ∀ j, j < k → (el fs j).1 ≠ s then ((Classical.choose h : Nat) : Int) else -1
theorem fplace_at {fs : List FV} {s : ByteArray} {k : Nat} (hk : k < fs.length) (he : (el fs k).1 = s) (hn : ∀ j, j < k → (el fs j).1 ≠ s) : fplace fs s = (k : Int) := by
  have h : ∃ k : Nat, k < fs.length ∧ (el fs k).1 = s ∧ ∀ j, j < k → (el fs j).1 ≠ s := ⟨k, hk, he, hn⟩
  unfold fplace
  rw [dif_pos h]
  obtain ⟨h1, h2, h3⟩ := Classical.choose_spec h
  rcases Nat.lt_trichotomy (Classical.choose h) k with h4 | h4 | h4
  · exact absurd h2 (hn _ h4)
  · rw [h4]
  · exact absurd he (h3 _ h4)
theorem fplace_no {fs : List FV} {s : ByteArray} (hn : ∀ j, j < fs.length → (el fs j).1 ≠ s) : fplace fs s = -1 := by
  unfold fplace
  rw [dif_neg]
  rintro ⟨k, hk, he, _⟩
  exact hn k hk he
theorem fplace_cases (fs : List FV) (s : ByteArray) : (fplace fs s = -1 ∧ ∀ j, j < fs.length → (el fs j).1 ≠ s) ∨ ∃ k : Nat, fplace fs s = (k : Int) ∧ k < fs.length ∧ (el fs k).1 = s ∧ ∀ j, j < k → (el fs j).1 ≠ s := by
  by_cases h : ∃ k : Nat, k < fs.length ∧ (el fs k).1 = s ∧ ∀ j, j < k → (el fs j).1 ≠ s
  · obtain ⟨k, h1, h2, h3⟩ := h
    exact .inr ⟨k, fplace_at h1 h2 h3, h1, h2, h3⟩
  · left
    have key : ∀ j, j < fs.length → (el fs j).1 ≠ s := by
      intro j
      induction j using Nat.strongRecOn with
      | _ j ih => intro hj he; exact h ⟨j, hj, he, fun i hi => ih i hi (by omega)⟩
    exact ⟨fplace_no key, key⟩
theorem fplace_bd (fs : List FV) (s : ByteArray) : -1 ≤ fplace fs s ∧ fplace fs s < fs.length := by
  rcases fplace_cases fs s with ⟨h, _⟩ | ⟨k, h, h1, _⟩ <;> omega
theorem fplace_nm {fs : List FV} {s : ByteArray} {k : Nat} (h : fplace fs s = (k : Int)) : k < fs.length ∧ (el fs k).1 = s ∧ ∀ j, j < k → (el fs j).1 ≠ s := by
  rcases fplace_cases fs s with ⟨h1, _⟩ | ⟨i, h1, h2⟩
  · omega
  · obtain rfl : i = k := by omega
    exact h2
theorem fplace_none {fs : List FV} {s : ByteArray} (h : fplace fs s < 0) : ∀ j, j < fs.length → (el fs j).1 ≠ s := by
  rcases fplace_cases fs s with ⟨_, h2⟩ | ⟨i, h1, h2⟩
  · exact h2
  · omega
/-- in valid files a name has one place -/
theorem place_one {fs : List FV} (h : FOK fs) {i j : Nat} (hi : i < fs.length) (hj : j < fs.length) (e : (el fs i).1 = (el fs j).1) : i = j := by
  rcases Nat.lt_trichotomy i j with h1 | h1 | h1
  · have := asc_lt h.asc h1 hj; rw [e, slt_irr] at this; cases this
  · exact h1
  · have := asc_lt h.asc h1 hi; rw [e, slt_irr] at this; cases this

/-! making -/
def ipos : List FV → ByteArray → Nat
  | [], _ => 0
  | f :: r, s => if slt f.1 s then ipos r s + 1 else 0
theorem ipos_eq {s : ByteArray} : ∀ {fs : List FV} {k : Nat}, k ≤ fs.length → (∀ j, j < k → slt (el fs j).1 s = true) → (k < fs.length → slt (el fs k).1 s = false) → ipos fs s = k := by
  intro fs
  induction fs with
  | nil => intro k hk _ _; simp at hk; rw [hk]; rfl
  | cons f r ih =>
    intro k hk h1 h2
    cases k with
    | zero =>
      have := h2 (by simp)
      simp only [ipos]
      rw [if_neg]
      intro h9
      have e : (el (f :: r) 0) = f := rfl
      rw [e, h9] at this
      cases this
    | succ k =>
      have h0 := h1 0 (by omega)
      have e : (el (f :: r) 0) = f := rfl
      rw [e] at h0
      simp only [ipos]
      rw [if_pos h0, ih (k := k) (by simpa using hk) (fun j hj => h1 (j + 1) (by omega)) (fun h => h2 (by simpa using h))]
theorem ipos_le (s : ByteArray) : ∀ fs : List FV, ipos fs s ≤ fs.length := by
  intro fs
  induction fs with
  | nil => exact Nat.le_refl _
  | cons f r ih => simp only [ipos]; split <;> simp <;> omega
theorem ipos_below (s : ByteArray) : ∀ (fs : List FV) (j : Nat), j < ipos fs s → slt (el fs j).1 s = true := by
  intro fs
  induction fs with
  | nil => intro j h; simp [ipos] at h
  | cons f r ih =>
    intro j h
    simp only [ipos] at h
    split at h
    · rename_i h0
      cases j with
      | zero => exact h0
      | succ j => exact ih j (by omega)
    · omega
theorem ipos_at (s : ByteArray) : ∀ (fs : List FV), ipos fs s < fs.length → slt (el fs (ipos fs s)).1 s = false := by
  intro fs
  induction fs with
  | nil => intro h; simp [ipos] at h
  | cons f r ih =>
    intro h
    simp only [ipos] at h ⊢
    split
    · rename_i h0
      rw [if_pos h0] at h
      exact ih (by simpa using h)
    · rename_i h0
      have e : el (f :: r) 0 = f := rfl
      rw [e]
      simpa using h0
def insF (fs : List FV) (s : ByteArray) : List FV := fs.take (ipos fs s) ++ (s, []) :: fs.drop (ipos fs s)
def MakeOK (fs : List FV) (s : ByteArray) : Prop := FOK fs ∧ fplace fs s < 0 ∧ FOK (insF fs s)
noncomputable def makeV (fs : List FV) (s : ByteArray) : List FV := bif dec (MakeOK fs s) then insF fs s else []
theorem makeV_yes {fs : List FV} {s : ByteArray} (h : MakeOK fs s) : makeV fs s = insF fs s := by unfold makeV; rw [dec_yes h]; rfl
theorem makeV_no {fs : List FV} {s : ByteArray} (h : ¬MakeOK fs s) : makeV fs s = [] := by unfold makeV; rw [dec_no h]; rfl

/-! growing -/
def IsLeast (l : List Int) (n : Int) : Prop := 1 ≤ n ∧ n ∉ l ∧ ∀ j, 1 ≤ j → j < n → j ∈ l
noncomputable def least (l : List Int) : Int := open Classical in if h : ∃ n, IsLeast l n then Classical.choose h else 0
theorem least_eq {l : List Int} {n : Int} (h : IsLeast l n) : least l = n := by
  have hx : ∃ n, IsLeast l n := ⟨n, h⟩
  unfold least
  rw [dif_pos hx]
  obtain ⟨h1, h2, h3⟩ := Classical.choose_spec hx
  rcases Int.lt_trichotomy (Classical.choose hx) n with h4 | h4 | h4
  · exact absurd (h.2.2 _ h1 h4) h2
  · exact h4
  · exact absurd (h3 _ h.1 h4) h.2.1
noncomputable def grownF (fs : List FV) (s : ByteArray) : List FV := fs.set (fplace fs s).toNat ((el fs (fplace fs s).toNat).1, (el fs (fplace fs s).toNat).2 ++ [least (pcs fs)])
def GrowOK (fs : List FV) (s : ByteArray) : Prop := FOK fs ∧ 0 ≤ fplace fs s ∧ FOK (grownF fs s)
noncomputable def growV (fs : List FV) (s : ByteArray) : List FV := bif dec (GrowOK fs s) then grownF fs s else []
noncomputable def growN (fs : List FV) (s : ByteArray) : Int := bif dec (GrowOK fs s) then least (pcs fs) else 0
theorem growV_yes {fs : List FV} {s : ByteArray} (h : GrowOK fs s) : growV fs s = grownF fs s := by unfold growV; rw [dec_yes h]; rfl
theorem growV_no {fs : List FV} {s : ByteArray} (h : ¬GrowOK fs s) : growV fs s = [] := by unfold growV; rw [dec_no h]; rfl
theorem growN_yes {fs : List FV} {s : ByteArray} (h : GrowOK fs s) : growN fs s = least (pcs fs) := by unfold growN; rw [dec_yes h]; rfl
theorem growN_no {fs : List FV} {s : ByteArray} (h : ¬GrowOK fs s) : growN fs s = 0 := by unfold growN; rw [dec_no h]; rfl

/-! dropping -/
def DropOK (fs : List FV) (s : ByteArray) : Prop := FOK fs ∧ 0 ≤ fplace fs s
noncomputable def dropF (fs : List FV) (s : ByteArray) : List FV := fs.take (fplace fs s).toNat ++ fs.drop ((fplace fs s).toNat + 1)
noncomputable def dropV (fs : List FV) (s : ByteArray) : List FV := bif dec (DropOK fs s) then dropF fs s else []
noncomputable def dropP (fs : List FV) (s : ByteArray) : List Int := bif dec (DropOK fs s) then (el fs (fplace fs s).toNat).2 else []
theorem dropV_yes {fs : List FV} {s : ByteArray} (h : DropOK fs s) : dropV fs s = dropF fs s := by unfold dropV; rw [dec_yes h]; rfl
theorem dropV_no {fs : List FV} {s : ByteArray} (h : ¬DropOK fs s) : dropV fs s = [] := by unfold dropV; rw [dec_no h]; rfl
theorem dropP_yes {fs : List FV} {s : ByteArray} (h : DropOK fs s) : dropP fs s = (el fs (fplace fs s).toNat).2 := by unfold dropP; rw [dec_yes h]; rfl
theorem dropP_no {fs : List FV} {s : ByteArray} (h : ¬DropOK fs s) : dropP fs s = [] := by unfold dropP; rw [dec_no h]; rfl

/-! a byte's place -/
def AtOK (fs : List FV) (s : ByteArray) (a : Int) : Prop := FOK fs ∧ 0 ≤ fplace fs s ∧ 0 ≤ a ∧ a / 64 < (el fs (fplace fs s).toNat).2.length
noncomputable def atN (fs : List FV) (s : ByteArray) (a : Int) : Int := bif dec (AtOK fs s a) then el (el fs (fplace fs s).toNat).2 (a / 64).toNat else 0
noncomputable def atK (fs : List FV) (s : ByteArray) (a : Int) : Int := bif dec (AtOK fs s a) then a % 64 else 0
theorem atN_yes {fs : List FV} {s : ByteArray} {a : Int} (h : AtOK fs s a) : atN fs s a = el (el fs (fplace fs s).toNat).2 (a / 64).toNat := by unfold atN; rw [dec_yes h]; rfl
theorem atN_no {fs : List FV} {s : ByteArray} {a : Int} (h : ¬AtOK fs s a) : atN fs s a = 0 := by unfold atN; rw [dec_no h]; rfl
theorem atK_yes {fs : List FV} {s : ByteArray} {a : Int} (h : AtOK fs s a) : atK fs s a = a % 64 := by unfold atK; rw [dec_yes h]; rfl
theorem atK_no {fs : List FV} {s : ByteArray} {a : Int} (h : ¬AtOK fs s a) : atK fs s a = 0 := by unfold atK; rw [dec_no h]; rfl
end Go.Proofs.Ythgnlljpjpklpaa

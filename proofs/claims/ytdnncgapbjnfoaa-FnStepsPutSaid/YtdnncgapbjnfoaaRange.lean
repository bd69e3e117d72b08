/-
  A range over a function, seen from the function that holds it. No conditions; proved from the library's own laws.
-/
import Derived.Test.YtdnncgapbjnfoaaRound
import Derived.Test.YtdnncgapbjnfoaaHeap
namespace Go.Proofs.Ytdnncgapbjnfoaa
open Go Go.RowKit
set_option linter.unusedVariables false

/-! what abides: blocks that are no cells may turn -/
def Odd (B : Nat) (S : List Nat) (W : World) : Prop := ∀ r ∈ S, B ≤ r ∧ ∃ o : Obj, W.heap[r]? = some o ∧ o.isCells = false
theorem odd_nil (B : Nat) (W : World) : Odd B [] W := fun r h => by cases h
section
variable {B B0 g t : Nat} {S S0 : List Nat} {W W' w0 : World} {cs : List Value}
theorem Blk.keep (h : Blk W g t cs) (hc : Ch S W W') (hs : Odd B S W) : Blk W' g t cs := h.ch hc fun hm => by
  obtain ⟨_, o, ho, hn⟩ := hs g hm
  have h2 : W.heap[g]? = _ := h
  rw [h2] at ho
  cases ho
  cases hn
theorem RS.keep {α : Type} [Inhabited α] {enc : α → List Value} {z n : Nat} {A : Option Addr} {xs : List α} (h : RS enc z W B0 A n xs) (hc : Ch S W W') (hs : Odd B S W) (hb : B0 ≤ B) : RS enc z W' B0 A n xs :=
  h.ch hc fun s hm => Nat.le_trans hb (hs s hm).1
theorem Own.keep {α : Type} {enc : α → List Value} {z base e : Nat} {v : Value} {xs : List α} (h : Own enc z W base e v xs) (hc : Ch S W W') (hs : Odd B S W) : Own enc z W' base e v xs :=
  h.ch hc fun s h1 h2 => by
    rcases h.2 with ⟨rfl, _⟩ | ⟨g, cap, cur, rfl, hb, hg, r⟩
    · simp [obl, Value.ownBlock] at h1
    · obtain ⟨_, o, ho, hn⟩ := hs s h2
      have : s = g := by simpa [obl, Value.ownBlock] using h1
      subst this
      rw [hg] at ho
      cases ho
      cases hn
theorem Ch.keep (h : Ch S0 w0 W) (hc : Ch S W W') (hs : Odd B S W) (hb : w0.heap.size ≤ B) : Ch S0 w0 W' := h.step hc fun s hm => .inr (Nat.le_trans hb (hs s hm).1)
theorem own_abide {β : Type} {I : β → World → Prop} (h : ∀ s W W' S, I s W → Ch S W W' → Odd B S W → I s W') : OwnFrom B I := fun s X Y row hi hg hr =>
  h s X Y row.toList hi (Ch.grown hg) (fun r hm => hr r (by simpa using hm))
theorem ch_putObj (W : World) (l : Nat) (o : Obj) : Ch [l] W (W.putObj l o) := by
  have := Ch.grown (grownBy_putObj' W l o)
  simpa using this
theorem keepsFrom_ch (hc : Ch S W W') (hs : ∀ s ∈ S, s < B ∨ ∀ o : Obj, W.heap[s]? = some o → o.isCells = true) : KeepsFrom B W W' :=
  ⟨hc.size, fun k o hk ho hn => (hc.block k (Array.getElem?_eq_some_iff.1 ho).1 (fun hm => by
    rcases hs k hm with h9 | h9
    · omega
    · have := h9 o ho; rw [hn] at this; cases this)).trans ho⟩
theorem Blk.cells (h : Blk W g t cs) : ∀ o : Obj, W.heap[g]? = some o → o.isCells = true := fun o ho => by
  have h2 : W.heap[g]? = _ := h
  rw [h2] at ho
  cases ho
  rfl
theorem mark_keep {d : Nat} (h : W.heap[d]? = some (.deferred (some []))) (hc : Ch S W W') (hn : d ∉ S) : W'.heap[d]? = some (.deferred (some [])) :=
  (hc.block d (Array.getElem?_eq_some_iff.1 h).1 hn).trans h
theorem Own.cells {α : Type} {enc : α → List Value} {z base e : Nat} {v : Value} {xs : List α} (h : Own enc z W base e v xs) : ∀ s ∈ obl v, ∀ o : Obj, W.heap[s]? = some o → o.isCells = true := fun s h1 o ho => by
  rcases h.2 with ⟨rfl, _⟩ | ⟨g, cap, cur, rfl, hb, hg, r⟩
  · simp [obl, Value.ownBlock] at h1
  · have : s = g := by simpa [obl, Value.ownBlock] using h1
    subst this
    rw [hg] at ho
    cases ho
    rfl
end

/-! functions that hold such a loop -/
def CWX (P : Program) (n : Nat) (D : List Deferred) (c : Code) (Q : Exit → List Deferred → Env → World → Prop) (E : Env) (w : World) : Prop :=
  ∀ a, Is n D E a → c.wp P (fun e a' w' => ∃ D' E', Is n D' E' a' ∧ Q e D' E' w') a w
abbrev thenX (K : List Deferred → Env → World → Prop) (Q : Exit → List Deferred → Env → World → Prop) : Exit → List Deferred → Env → World → Prop
  | .normal, D, E, w => K D E w
  | e, D, E, w => Q e D E w
abbrev blockX (id : Nat) (Q : Exit → List Deferred → Env → World → Prop) : Exit → List Deferred → Env → World → Prop
  | .exit id', D, E, w => bif Nat.beq id' id then Q .normal D E w else Q (.exit id') D E w
  | e, D, E, w => Q e D E w
section
variable {P : Program} {n : Nat} {D : List Deferred} {Q : Exit → List Deferred → Env → World → Prop} {E : Env} {w : World}
theorem cwx_seq {x y : Code} (h : ∀ K : List Deferred → Env → World → Prop, (∀ D E w, CWX P n D y Q E w → K D E w) → CWX P n D x (thenX K Q) E w) : CWX P n D (.seq x y) Q E w := by
  intro a ha
  refine wp_seq (Code.wp_mono ?_ (h _ (fun _ _ _ h => h) a ha))
  rintro e a' w' ⟨D', E', h1, h2⟩
  cases e with
  | normal => exact h2 a' h1
  | _ => exact ⟨D', E', h1, h2⟩
theorem cwx_lift {c : Code} (h : CW P n D c (fun e E w => Q e D E w) E w) : CWX P n D c Q E w := fun a ha => Code.wp_mono (fun e a' w' ⟨E', h1, h2⟩ => ⟨D, E', h1, h2⟩) (h a ha)
theorem cwx_block {id : Nat} {c : Code} (h : CWX P n D c (blockX id Q) E w) : CWX P n D (.block id c) Q E w := by
  intro a ha
  refine wp_block (Code.wp_mono ?_ (h a ha))
  rintro e a' w' ⟨D', E', h1, h2⟩
  cases e with
  | exit id' =>
    simp only [Exit.inBlock]
    simp only [blockX] at h2
    by_cases hid : id' = id
    · subst hid
      rw [if_pos rfl]
      simp only [Nat.beq_refl, cond_true] at h2
      exact ⟨D', E', h1, h2⟩
    · rw [if_neg hid]
      have : Nat.beq id' id = false := by
        cases hb : Nat.beq id' id with
        | true => exact absurd (Nat.eq_of_beq_eq_true hb) hid
        | false => rfl
      simp only [this, cond_false] at h2
      exact ⟨D', E', h1, h2⟩
  | _ => exact ⟨D', E', h1, h2⟩
theorem Is.nodef {a : Act} (h : Is n D E a) : Is n [] E { a with defers := [] } := ⟨h.size, rfl, h.at_⟩
theorem Is.marked {a : Act} (d : Deferred) (h : Is n D E a) : Is n (d :: D) E { a with defers := d :: a.defers } := ⟨h.size, by simp [h.defs], h.at_⟩
theorem Is.two {a : Act} {p q : Nat} {x y : Value} (h : Is n D E a) (hp : Nat.blt p n = true) (hq : Nat.blt q n = true) :
    Is n [] (upd (upd E p x) q y) { tmps := ((#[p, q] : Array Tmp).zip #[x, y]).foldl (fun t (p, v) => t.setIfInBounds p v) a.tmps, defers := [] } := by
  have h2 := ((h.put (v := x) hp).put (v := y) hq).nodef
  have e : ((#[p, q] : Array Tmp).zip #[x, y]).foldl (fun t (p, v) => t.setIfInBounds p v) a.tmps = ((a.put (some p) x).put (some q) y).tmps := by
    simp [Act.put]
  rw [e]
  exact h2

def BodyQ {α : Type} (B : Nat) (Kp : World → World → Prop) (I Ix : List α → World → Prop) (xs : List α) (W : World) : Exit → Env → World → Prop
  | .normal, _, W' => KeepsFrom B W W' ∧ Kp W W' ∧ I xs W'
  | .ret, _, W' => KeepsFrom B W W' ∧ Ix xs W'
  | _, _, _ => False

theorem cwx_range {α : Type} {g : Operand} {p q : Nat} {assign body : Code} {gf : Nat} {lb : Array Value} (v1 v2 : α → Value) {Kp : World → World → Prop} {S Sp : List α → Prop} {N : Nat}
    (hg : ev E g = .func (.func gf) #[] lb) (hf : Callable P gf) (hp : Nat.blt p n = true) (hq : Nat.blt q n = true)
    (hseq : SeqStopsK Fence.wide 1 P gf lb (fun x => #[v1 x, v2 x]) Kp S Sp N w)
    (hKt : ∀ {A B C : World}, Kp A B → Kp B C → Kp A C) (hKb : ∀ (W : World) (l : Nat) (o o' : Obj), w.heap.size ≤ l → W.heap[l]? = some o → o.isCells = false → o.isWalk = false → Kp W (W.putObj l o')) (hKc : ∀ W W', w.heap.size ≤ W.heap.size → Ch [] W W' → Kp W W')
    (I Ix : List α → World → Prop) (hI : ∀ s W W' S, I s W → Ch S W W' → Odd w.heap.size S W → I s W') (hIx : ∀ s W W' S, Ix s W → Ch S W W' → Odd w.heap.size S W → Ix s W') (hsz : ∀ s W, I s W → w.heap.size ≤ W.heap.size) (h0 : I [] w)
    (EX : Env → α → Nat → Env) (tb : TypeId) (cs : α → List Value)
    (hassign : ∀ l x W, CR (some l) P n [] assign (fun e E' W' => e = .normal ∧ ∃ g, E' = EX (upd (upd E p (v1 x)) q (v2 x)) x g ∧ W.heap.size ≤ g ∧ Blk W' g tb (cs x) ∧ Ch [] W W') (upd (upd E p (v1 x)) q (v2 x)) W)
    (hbody : ∀ l pre x g W, w.heap.size ≤ g → I pre W → Blk W g tb (cs x) → pre.length < N → CR (some l) P n [] body (BodyQ w.heap.size Kp I Ix (pre ++ [x]) W) (EX (upd (upd E p (v1 x)) q (v2 x)) x g) W)
    (hdone : ∀ d xs W, w.heap.size ≤ d → S xs → I xs W → W.heap[d]? = some (.deferred (some [])) → Q .normal (⟨.collected d, #[]⟩ :: D) E W)
    (hstop : ∀ d pre W, w.heap.size ≤ d → Sp pre → Ix pre W → W.heap[d]? = some (.deferred (some [])) → Q .ret (⟨.collected d, #[]⟩ :: D) E W) :
    CWX P n D (.rangeFunc g #[p, q] assign body) Q E w := by
  intro a ha
  obtain ⟨fn, c1, c2, c3⟩ := hf
  have eg : ∀ args w, (callFunc gf args).run P w = .ok (.enter gf args) w := fun args u => by
    have g2' : ¬ fn.name = "runtime.NumGoroutine" := by simpa using c2
    have g3' : ¬ fn.body = none := by intro h; simp [h] at c3
    simp [callFunc, program, Sem.run, c1, g2', g3']
  refine wpIn_wide (n := 2).1 (wpIn_rangeFunc_ownH (F := Fence.wide) (n := 2) rfl (by decide) (gf := gf) (lb := lb) (by rw [ha.eval]; exact hg) trivial eg hseq hKt hKb (Below.refl _ _) (fun _ => rfl)
    I (fun c pre W => c = .ret ∧ Ix pre W) (own_abide hI) (fun c => own_abide (fun s W W' S hs hc ho => ⟨hs.1, hIx s W W' S hs.2 hc ho⟩)) h0
    (fun x a' W => ∃ g, Is n [] (EX (upd (upd E p (v1 x)) q (v2 x)) x g) a' ∧ w.heap.size ≤ g ∧ Blk W g tb (cs x))
    (fun x a' => own_abide (fun s W W' S hs hc ho => by obtain ⟨g, h1, h2, h3⟩ := hs; exact ⟨g, h1, h2, h3.keep hc ho⟩)) ?_ ?_ ?_ ?_)
  · intro l pre x W K hi hK
    refine wpIn_mono (hassign l x W _ (ha.two hp hq)) ?_
    rintro e a' W' ⟨E', h1, rfl, g, rfl, hgs, hb, hc⟩
    exact hK a' W' (keepsFrom_ch hc (fun s hs => by cases hs)) (hKc _ _ (hsz _ _ hi) hc) (hI _ _ _ _ hi hc (odd_nil _ _)) ⟨g, h1, Nat.le_trans (hsz _ _ hi) hgs, hb⟩
  · rintro l pre x a' W _ _ hi ⟨g, h1, h2, h3⟩ hlen
    refine wpIn_mono (hbody l pre x g W h2 hi h3 hlen a' h1) ?_
    rintro e a2 W' ⟨E', _, hq⟩
    cases e with
    | normal => exact hq
    | ret => exact ⟨hq.1, rfl, hq.2⟩
    | _ => exact hq.elim
  · intro d xs W hd hS hi hk
    exact ⟨_, E, ha.marked _, hdone d xs W hd hS hi hk⟩
  · rintro d c pre W hd hSp ⟨rfl, hi⟩ hk
    exact wpIn_ret ⟨_, E, ha.marked _, hstop d pre W hd hSp hi hk⟩

def FQX (P : Program) (rs : Array ResultVar) (S : Value → World → Prop) (e : Exit) (D : List Deferred) (E : Env) (w : World) : Prop :=
  (D = [] ∧ FQ P rs S e E w) ∨ ∃ d, D = [⟨.collected d, #[]⟩] ∧ w.heap[d]? = some (.deferred (some [])) ∧ FQ P rs S e E (w.putObj d (.deferred none))

theorem callsIn_own {f : FuncId} {fn : Func} {c : Code} {args : List Value} {R : World → Prop} (hf : P.funcs[f]? = some fn) (hb : fn.body = some c) (hn : fn.ntmps = n) (hrs : fn.results = #[]) (hl : Nat.ble args.length n = true)
    (h : CR none P n [] c (fun e _ W => (e = .normal ∨ e = .ret) ∧ R W) (argE args) w) : CallsIn Fence.wide 1 P f args.toArray w fun e W' => (∃ v, e = .returned v) ∧ R W' := by
  refine callsIn_wide.2 (callsIn_wide.1 (callsIn_of_wp (F := Fence.wide) (n := 0) hf hb trivial ?_))
  subst hn
  refine wpIn_mono (h _ (Is.init args fn.ntmps hl)) ?_
  rintro e a' W' ⟨E', h1, (rfl | rfl), h2⟩
  · exact ⟨h1.defs, _, res0 fn _ hrs h1.at_, ⟨_, rfl⟩, h2⟩
  · exact ⟨h1.defs, _, res0 fn _ hrs h1.at_, ⟨_, rfl⟩, h2⟩
theorem fqx_l {rs : Array ResultVar} {S : Value → World → Prop} {e : Exit} (h : FQ P rs S e E w) : FQX P rs S e [] E w := .inl ⟨rfl, h⟩
theorem fqx_r {rs : Array ResultVar} {S : Value → World → Prop} {e : Exit} {d : Nat} (hk : w.heap[d]? = some (.deferred (some []))) (h : FQ P rs S e E (w.putObj d (.deferred none))) : FQX P rs S e [⟨.collected d, #[]⟩] E w := .inr ⟨d, rfl, hk, h⟩
theorem bodyq_n {α : Type} {B : Nat} {Kp : World → World → Prop} {I Ix : List α → World → Prop} {xs : List α} {W W' : World} (h1 : KeepsFrom B W W') (h2 : Kp W W') (h3 : I xs W') : BodyQ B Kp I Ix xs W .normal E W' := ⟨h1, h2, h3⟩
theorem bodyq_r {α : Type} {B : Nat} {Kp : World → World → Prop} {I Ix : List α → World → Prop} {xs : List α} {W W' : World} (h1 : KeepsFrom B W W') (h2 : Ix xs W') : BodyQ B Kp I Ix xs W .ret E W' := ⟨h1, h2⟩

theorem fn_ofX {f : FuncId} {fn : Func} {c : Code} {rs : Array ResultVar} {args : List Value} {S : Value → World → Prop}
    (hf : P.funcs[f]? = some fn) (hb : fn.body = some c) (hn : fn.ntmps = n) (hrs : fn.results = rs) (hl : Nat.ble args.length n = true)
    (h : CWX P n [] c (FQX P rs S) (argE args) w) : Fn P f args w S := by
  refine callsIn_wide.1 (callsIn_of_wp_marks (F := Fence.wide) (n := 0) hf hb trivial ?_)
  subst hn
  refine wpIn_wide.2 (Code.wp_mono ?_ (h _ (Is.init args fn.ntmps hl)))
  have key : ∀ (e : Exit) (a' : Act) (w' : World) (D' : List Deferred) (E' : Env), (e = .normal ∨ e = .ret) → Is fn.ntmps D' E' a' → FQX P rs S e D' E' w' →
      LeavesInM Fence.wide 0 P fn a'.tmps (fun e w' => ∃ v, e = .returned v ∧ S v w') a'.defers .returning w' := by
    intro e a' w' D' E' he h1 h2
    have fin : ∀ u, FQ P rs S e E' u → LeavesInM Fence.wide 0 P fn a'.tmps (fun e w' => ∃ v, e = .returned v ∧ S v w') [] .returning u := fun u hq => by
      rcases he with rfl | rfl
      · obtain ⟨v, hv, hs⟩ := hq; exact ⟨v, hv fn _ hrs h1.at_, v, rfl, hs⟩
      · obtain ⟨v, hv, hs⟩ := hq; exact ⟨v, hv fn _ hrs h1.at_, v, rfl, hs⟩
    rw [h1.defs]
    rcases h2 with ⟨rfl, hq⟩ | ⟨d, rfl, hk, hq⟩
    · exact fin _ hq
    · exact ⟨by simp, .inl ⟨d, _, rfl, run_takeDeferred hk, fin _ hq⟩⟩
  rintro e a' w' ⟨D', E', h1, h2⟩
  cases e with
  | normal => exact key _ _ _ _ _ (.inl rfl) h1 h2
  | ret => exact key _ _ _ _ _ (.inr rfl) h1 h2
  | _ => rcases h2 with ⟨_, h2⟩ | ⟨_, _, _, h2⟩ <;> exact h2.elim
end
end Go.Proofs.Ytdnncgapbjnfoaa

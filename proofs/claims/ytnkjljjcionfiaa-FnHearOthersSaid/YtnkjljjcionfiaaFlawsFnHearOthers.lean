/-
  The walk of laws.FnHearOthers, written by program: each line names the law of one operation. Conditions: those of the theorem.
-/
import Derived.Test.YtnkjljjcionfiaaProg
import Derived.Test.YtnkjljjcionfiaaBeats2
import Derived.Test.YtnkjljjcionfiaaFspecDrawBeatHear
import Derived.Test.YtnkjljjcionfiaaFimplBeatHear
import Derived.Test.YtnkjljjcionfiaaFspecBeatHear
import Derived.Test.YtnkjljjcionfiaaFlawssameBeats
import Derived.KernelRfl
namespace Go.Proofs.Ytnkjljjcionfiaa
open Go Go.RowKit
set_option linter.unusedVariables false
set_option linter.unusedSimpArgs false
namespace FnHearOthers_okF
theorem T3 : TI Try.prog 3 false (.int .i64 0) 1 8 := TI.mk' Try.underlying3 rfl (by kernel_rfl)
theorem T39 : TI Try.prog 39 true (.agg #[.int .i64 0, .int .i64 0]) 2 16 := TI.mk' Try.underlying39 rfl (by kernel_rfl)
theorem F39_0 : FldOK Try.prog 39 0 0 := ⟨_, _, 0, Try.underlying39, rfl, rfl, by kernel_rfl⟩
theorem C34 : Callable Try.prog 34 := ⟨_, Try.func34, by kernel_rfl, by kernel_rfl⟩
theorem C35 : Callable Try.prog 35 := ⟨_, Try.func35, by kernel_rfl, by kernel_rfl⟩
theorem C36 : Callable Try.prog 36 := ⟨_, Try.func36, by kernel_rfl, by kernel_rfl⟩
theorem C37 : Callable Try.prog 37 := ⟨_, Try.func37, by kernel_rfl, by kernel_rfl⟩
end FnHearOthers_okF
open FnHearOthers_okF in
set_option maxHeartbeats 4000000 in
theorem FnHearOthers_ok (A0 : Option Addr) (n0 c0 : Nat) (xs0 : List UInt8) (w : World) (hR0 : RS encU 1 w w.heap.size A0 n0 xs0) (hn0 : n0 ≤ c0) :
    Fn Try.prog 12 [(.slice A0 n0 c0)] w fun v w' => v = .bool true ∧ Ch [] w w' := by
  have hlen0 := hR0.len
  refine fn_of (n := 117) Try.func12 rfl rfl rfl rfl ?_
  have hc : Ch [] w w := Ch.refl _ _
  refine cw_seq fun K1 hK2 => ?_
  refine cw_region fun K3 hK4 => ?_
  refine rw_cons (op_pv (w0 rfl) rfl rfl (pv_assign (v := (.bool false)) rfl rfl) ?_)
  refine rw_nil (hK4 _ _ ?_)
  refine hK2 _ _ ?_
  refine cw_seq fun K5 hK6 => ?_
  refine cw_seq fun K7 hK8 => ?_
  refine cw_region fun K9 hK10 => ?_
  refine rw_cons (op_pv (w0 rfl) rfl rfl (pv_move (v := (.slice A0 n0 c0)) rfl rfl) ?_)
  refine rw_cons (op_pv (w0 rfl) rfl rfl (pv_len Try.underlying22 rfl rfl) ?_)
  refine rw_cons (op_pv (w0 rfl) rfl rfl (pv_gtr rfl rfl rfl) ?_)
  refine rw_nil (hK10 _ _ ?_)
  refine hK8 _ _ ?_
  refine cw_cond rfl (fun h11 => ?_) (fun h11 => ?_)
  · -- then
    replace h11 := of_decide_eq_true h11
    refine cw_seq fun K12 hK13 => ?_
    refine cw_region fun K14 hK15 => ?_
    refine rw_cons (op_pv (w0 rfl) rfl rfl (pv_assign (v := (.bool true)) rfl rfl) ?_)
    refine rw_nil (hK15 _ _ ?_)
    refine hK13 _ _ ?_
    refine cw_ret ?_
    refine fin1 rfl ?_
    exact ⟨rfl, hc⟩
  · -- else
    replace h11 := of_decide_eq_false h11
    refine cw_skip ?_
    refine hK6 _ _ ?_
    refine cw_seq fun K16 hK17 => ?_
    refine cw_region fun K18 hK19 => ?_
    refine rw_cons (op_pv (w0 rfl) rfl rfl (pv_move (v := (.slice A0 n0 c0)) rfl rfl) ?_)
    refine rw_cons (op_call (w0 rfl) rfl rfl (rc_call C34 rfl rfl) (DrawBeatHear_ok _ _ _ _ _ (hR0.more (by omega)) (by omega)) ?_)
    rintro _ w20 ⟨A25, c26, xs27, s21, a22, rfl, hO28, hx23, hch24⟩
    have hsz30 := hch24.size
    replace hR0 := hR0.ch0 hch24
    replace hc := hc.step0 hch24
    have hub29 := hO28.lt
    have hcap31 : xs27.length ≤ c26 := by obtain ⟨_, _, hv, h1, _⟩ := hO28.form; injection hv with _ _ h3; omega
    refine rw_cons (op_pv (w0 rfl) rfl rfl (pv_move (v := (.tuple #[(.slice A25 xs27.length c26), (.agg #[(.int .i64 s21), (.int .i64 a22)])])) rfl rfl) ?_)
    refine rw_cons (op_pv (w0 rfl) rfl rfl (pv_ext (v := (.slice A25 xs27.length c26)) rfl rfl rfl) ?_)
    refine rw_cons (op_pv (w0 rfl) rfl rfl (pv_ext (v := (.agg #[(.int .i64 s21), (.int .i64 a22)])) rfl rfl rfl) ?_)
    refine rw_cons (op_alloc T39 (w0 rfl) rfl rfl rfl ?_)
    rintro g33 w32 hg36 hg37 hB35 hch34
    have hsz38 := hch34.size
    replace hR0 := hR0.ch0 hch34
    replace hO28 := hO28.ch0 hch34
    replace hc := hc.step0 hch34
    replace hB35 : Blk w32 g33 39 [(.int .i64 0), (.int .i64 0)] := hB35
    have hdj39 : ∀ s ∈ obl (.slice A25 xs27.length c26), s ≠ g33 := fun s hs => by have := hub29 s hs; omega
    refine rw_cons (op_pv (w0 rfl) rfl rfl (pv_assign (v := (.slice A25 xs27.length c26)) rfl rfl) ?_)
    refine rw_cons (op_store_blk T39 hB35 (w0 rfl) rfl rfl rfl rfl rfl (one_all rfl) (Nat.le_of_ble_eq_true rfl) ?_)
    rintro w40 hB42 hch41
    have hsz43 := hch41.size
    replace hR0 := hR0.ch hch41 (off1 (by omega))
    replace hO28 := hO28.ch hch41 (fun s hs => by have := dj_asg hdj39 s hs; simpa using this)
    replace hc := (off1 (by omega)).step hc hch41
    replace hB35 : Blk w40 g33 39 [(.int .i64 s21), (.int .i64 a22)] := hB42
    clear hB42
    refine rw_nil (hK19 _ _ ?_)
    refine hK17 _ _ ?_
    refine cw_seq fun K44 hK45 => ?_
    refine cw_region fun K46 hK47 => ?_
    refine rw_cons (op_pv (w0 rfl) rfl rfl (pv_move (v := (.slice A25 xs27.length c26)) rfl rfl) ?_)
    refine rw_cons (op_lv (w0 rfl) rfl rfl (lv_loadN T39 rfl rfl rfl (fun j v hv => hB35.cellA hv)) ?_)
    refine rw_cons (op_call (w0 rfl) rfl rfl (rc_call C35 rfl rfl) (BeatHear_i _ xs27.length _ xs27 s21 a22 _ (hO28.rs (fun _ => rfl)) (by omega)) ?_)
    rintro _ w48 ⟨A50, c51, rfl, hO52, hch49⟩
    have hsz53 := hch49.size
    replace hR0 := hR0.ch0 hch49
    replace hO28 := hO28.ch0 hch49
    replace hB35 := hB35.ch0 hch49
    replace hc := hc.step0 hch49
    have hub54 := hO52.lt
    have hcap55 : (hearV xs27 ⟨s21, a22⟩).length ≤ c51 := by obtain ⟨_, _, hv, h1, _⟩ := hO52.form; injection hv with _ _ h3; omega
    have hnt56 := hearV_le xs27 ⟨s21, a22⟩
    refine rw_cons (op_pv (w0 rfl) rfl rfl (pv_move (v := (.tuple #[(.slice A50 (hearV xs27 ⟨s21, a22⟩).length c51), (.bool (dec (HearOK xs27 ⟨s21, a22⟩)))])) rfl rfl) ?_)
    refine rw_cons (op_pv (w0 rfl) rfl rfl (pv_ext (v := (.slice A50 (hearV xs27 ⟨s21, a22⟩).length c51)) rfl rfl rfl) ?_)
    refine rw_cons (op_pv (w0 rfl) rfl rfl (pv_ext (v := (.bool (dec (HearOK xs27 ⟨s21, a22⟩)))) rfl rfl rfl) ?_)
    refine rw_cons (op_pv (w0 rfl) rfl rfl (pv_assign (v := (.slice A50 (hearV xs27 ⟨s21, a22⟩).length c51)) rfl rfl) ?_)
    refine rw_cons (op_pv (w0 rfl) rfl rfl (pv_assign (v := (.bool (dec (HearOK xs27 ⟨s21, a22⟩)))) rfl rfl) ?_)
    refine rw_nil (hK47 _ _ ?_)
    refine hK45 _ _ ?_
    refine cw_seq fun K57 hK58 => ?_
    refine cw_region fun K59 hK60 => ?_
    refine rw_cons (op_pv (w0 rfl) rfl rfl (pv_move (v := (.slice A25 xs27.length c26)) rfl rfl) ?_)
    refine rw_cons (op_lv (w0 rfl) rfl rfl (lv_loadN T39 rfl rfl rfl (fun j v hv => hB35.cellA hv)) ?_)
    refine rw_cons (op_call (w0 rfl) rfl rfl (rc_call C36 rfl rfl) (BeatHear_s _ xs27.length _ xs27 s21 a22 _ (hO28.rs (fun _ => rfl)) (by omega)) ?_)
    rintro _ w61 ⟨A63, c64, rfl, hO65, hch62⟩
    have hsz66 := hch62.size
    replace hR0 := hR0.ch0 hch62
    replace hO28 := hO28.ch0 hch62
    replace hB35 := hB35.ch0 hch62
    replace hO52 := hO52.ch0 hch62
    replace hc := hc.step0 hch62
    have hub67 := hO65.lt
    have hcap68 : (hearV xs27 ⟨s21, a22⟩).length ≤ c64 := by obtain ⟨_, _, hv, h1, _⟩ := hO65.form; injection hv with _ _ h3; omega
    have hnt69 := hearV_le xs27 ⟨s21, a22⟩
    refine rw_cons (op_pv (w0 rfl) rfl rfl (pv_move (v := (.tuple #[(.slice A63 (hearV xs27 ⟨s21, a22⟩).length c64), (.bool (dec (HearOK xs27 ⟨s21, a22⟩)))])) rfl rfl) ?_)
    refine rw_cons (op_pv (w0 rfl) rfl rfl (pv_ext (v := (.slice A63 (hearV xs27 ⟨s21, a22⟩).length c64)) rfl rfl rfl) ?_)
    refine rw_cons (op_pv (w0 rfl) rfl rfl (pv_ext (v := (.bool (dec (HearOK xs27 ⟨s21, a22⟩)))) rfl rfl rfl) ?_)
    refine rw_cons (op_pv (w0 rfl) rfl rfl (pv_assign (v := (.slice A63 (hearV xs27 ⟨s21, a22⟩).length c64)) rfl rfl) ?_)
    refine rw_cons (op_pv (w0 rfl) rfl rfl (pv_assign (v := (.bool (dec (HearOK xs27 ⟨s21, a22⟩)))) rfl rfl) ?_)
    refine rw_nil (hK60 _ _ ?_)
    refine hK58 _ _ ?_
    refine cw_seq fun K70 hK71 => ?_
    refine cw_seq fun K72 hK73 => ?_
    refine cw_region fun K74 hK75 => ?_
    refine rw_cons (op_pv (w0 rfl) rfl rfl (pv_move (v := (.bool (dec (HearOK xs27 ⟨s21, a22⟩)))) rfl rfl) ?_)
    refine rw_cons (op_pv (w0 rfl) rfl rfl (pv_move (v := (.bool (dec (HearOK xs27 ⟨s21, a22⟩)))) rfl rfl) ?_)
    refine rw_cons (op_pv (w0 rfl) rfl rfl (pv_neBs Try.underlying4 rfl rfl rfl) ?_)
    refine rw_cons (op_pv (w0 rfl) rfl rfl (pv_move (v := (.bool false)) rfl rfl) ?_)
    refine rw_cons (op_pv (w1y rfl rfl rfl rfl) rfl rfl (pv_move (v := (.slice A50 (hearV xs27 ⟨s21, a22⟩).length c51)) rfl rfl) ?_)
    refine rw_cons (op_pv (w1y rfl rfl rfl rfl) rfl rfl (pv_move (v := (.slice A63 (hearV xs27 ⟨s21, a22⟩).length c64)) rfl rfl) ?_)
    refine rw_cons (op_call (w1y rfl rfl rfl rfl) rfl rfl (rc_call C37 rfl rfl) (sameBeats_same _ _ _ _ _ _ (hearV xs27 ⟨s21, a22⟩) _ (hO52.rs (fun _ => rfl)) (hO65.rs (fun _ => rfl)) (by omega)) ?_)
    rintro _ w76 ⟨rfl, hch77⟩
    have hsz78 := hch77.size
    replace hR0 := hR0.ch0 hch77
    replace hO28 := hO28.ch0 hch77
    replace hB35 := hB35.ch0 hch77
    replace hO52 := hO52.ch0 hch77
    replace hO65 := hO65.ch0 hch77
    replace hc := hc.step0 hch77
    refine rw_cons (op_pv (w1y rfl rfl rfl rfl) rfl rfl (pv_not rfl rfl) ?_)
    refine rw_cons (op_pv (w0 rfl) rfl rfl (pv_pickF (v := (.bool (!true))) rfl rfl rfl) ?_)
    refine rw_cons (op_pv (w0 rfl) rfl rfl (pv_move (v := (.bool (!true))) rfl rfl) ?_)
    refine rw_cons (op_pv (w1y rfl rfl rfl rfl) rfl rfl (pv_move (v := (.bool (dec (HearOK xs27 ⟨s21, a22⟩)))) rfl rfl) ?_)
    refine rw_cons (op_pv (w1y rfl rfl rfl rfl) rfl rfl (pv_not rfl rfl) ?_)
    refine rw_cons (op_pv (w0 rfl) rfl rfl (pv_pickF (v := (.bool (!(dec (HearOK xs27 ⟨s21, a22⟩))))) rfl rfl rfl) ?_)
    refine rw_nil (hK75 _ _ ?_)
    refine hK73 _ _ ?_
    refine cw_cond rfl (fun h79 => ?_) (fun h79 => ?_)
    · -- then
      replace h79 := not_t h79
      replace h79 := dec_f h79
      refine cw_seq fun K80 hK81 => ?_
      refine cw_region fun K82 hK83 => ?_
      refine rw_cons (op_pv (w0 rfl) rfl rfl (pv_move (v := (.bool (dec (HearOK xs27 ⟨s21, a22⟩)))) rfl rfl) ?_)
      refine rw_cons (op_pv (w0 rfl) rfl rfl (pv_move (v := (.bool (dec (HearOK xs27 ⟨s21, a22⟩)))) rfl rfl) ?_)
      refine rw_cons (op_pv (w0 rfl) rfl rfl (pv_eqBs Try.underlying4 rfl rfl rfl) ?_)
      refine rw_cons (op_pv (w0 rfl) rfl rfl (pv_move (v := (.bool true)) rfl rfl) ?_)
      refine rw_cons (op_pv (w1y rfl rfl rfl rfl) rfl rfl (pv_move (v := (.slice A50 (hearV xs27 ⟨s21, a22⟩).length c51)) rfl rfl) ?_)
      refine rw_cons (op_pv (w1y rfl rfl rfl rfl) rfl rfl (pv_move (v := (.slice A63 (hearV xs27 ⟨s21, a22⟩).length c64)) rfl rfl) ?_)
      refine rw_cons (op_call (w1y rfl rfl rfl rfl) rfl rfl (rc_call C37 rfl rfl) (sameBeats_same _ _ _ _ _ _ (hearV xs27 ⟨s21, a22⟩) _ (hO52.rs (fun _ => rfl)) (hO65.rs (fun _ => rfl)) (by omega)) ?_)
      rintro _ w84 ⟨rfl, hch85⟩
      have hsz86 := hch85.size
      replace hR0 := hR0.ch0 hch85
      replace hO28 := hO28.ch0 hch85
      replace hB35 := hB35.ch0 hch85
      replace hO52 := hO52.ch0 hch85
      replace hO65 := hO65.ch0 hch85
      replace hc := hc.step0 hch85
      refine rw_cons (op_pv (w0 rfl) rfl rfl (pv_pickT (v := (.bool true)) rfl rfl rfl) ?_)
      refine rw_cons (op_pv (w0 rfl) rfl rfl (pv_assign (v := (.bool true)) rfl rfl) ?_)
      refine rw_nil (hK83 _ _ ?_)
      refine hK81 _ _ ?_
      refine cw_ret ?_
      refine fin1 rfl ?_
      exact ⟨rfl, hc⟩
    · -- else
      replace h79 := not_f h79
      replace h79 := dec_t h79
      refine cw_skip ?_
      refine hK71 _ _ ?_
      refine cw_seq fun K87 hK88 => ?_
      have hok : HearOK xs27 ⟨s21, a22⟩ := by assumption
      have hev := hearV_yes hok
      have hx8 := hok.1.1
      have hhl := hear_len xs27 ⟨s21, a22⟩
      refine cw_region fun K89 hK90 => ?_
      refine rw_cons (op_bslice [] Try.underlying23 T39 (w0 rfl) rfl rfl rfl rfl rfl (by simp [Value.cells]) (by decide) ?_)
      intro g92 w91 hg95 hg96 hK94 hch93
      have hO97 : Own encB 2 w91 w76.heap.size 39 (.slice (some ⟨g92, 0, none⟩) 0 0) ([] : List Bt) := Blk.own (xs := ([] : List Bt)) hK94 (by omega) rfl (by decide) rfl
      have hsz98 := hch93.size
      replace hR0 := hR0.ch0 hch93
      replace hO28 := hO28.ch0 hch93
      replace hB35 := hB35.ch0 hch93
      replace hO52 := hO52.ch0 hch93
      replace hO65 := hO65.ch0 hch93
      replace hc := hc.step0 hch93
      have hub99 := hO97.lt
      refine rw_cons (op_pv (w0 rfl) rfl rfl (pv_assign (v := (.slice (some ⟨g92, 0, none⟩) 0 0)) rfl rfl) ?_)
      refine rw_nil (hK90 _ _ ?_)
      refine hK88 _ _ ?_
      refine cw_seq fun K100 hK101 => ?_
      refine cw_region fun K102 hK103 => ?_
      refine rw_cons (op_bslice [] Try.underlying23 T39 (w0 rfl) rfl rfl rfl rfl rfl (by simp [Value.cells]) (by decide) ?_)
      intro g105 w104 hg108 hg109 hK107 hch106
      have hO110 : Own encB 2 w104 w91.heap.size 39 (.slice (some ⟨g105, 0, none⟩) 0 0) ([] : List Bt) := Blk.own (xs := ([] : List Bt)) hK107 (by omega) rfl (by decide) rfl
      have hsz111 := hch106.size
      replace hR0 := hR0.ch0 hch106
      replace hO28 := hO28.ch0 hch106
      replace hB35 := hB35.ch0 hch106
      replace hO52 := hO52.ch0 hch106
      replace hO65 := hO65.ch0 hch106
      replace hO97 := hO97.ch0 hch106
      replace hc := hc.step0 hch106
      have hub112 := hO110.lt
      refine rw_cons (op_pv (w0 rfl) rfl rfl (pv_assign (v := (.slice (some ⟨g105, 0, none⟩) 0 0)) rfl rfl) ?_)
      refine rw_nil (hK103 _ _ ?_)
      refine hK101 _ _ ?_
      refine cw_seq fun K113 hK114 => ?_
      refine cw_seq fun K115 hK116 => ?_
      refine cw_region fun K117 hK118 => ?_
      refine rw_cons (op_pv (w0 rfl) rfl rfl (pv_assign (v := (.int .i64 0)) rfl rfl) ?_)
      refine rw_nil (hK118 _ _ ?_)
      refine hK116 _ _ ?_
      refine cw_block ?_
      refine cw_loop (σ := Nat × (Option Addr) × Nat) (fun ⟨k, Ao, co⟩ => [(9, (.slice Ao (others ⟨s21, a22⟩ (xs27.take k)).length co)), (11, (.int .i64 (k : Int))), (2, (.bool false)), (3, (.slice A25 xs27.length c26)), (4, (.pointer (some (⟨g33, 0, none⟩)))), (5, (.slice A50 (hearV xs27 ⟨s21, a22⟩).length c51)), (10, (.slice (some ⟨g105, 0, none⟩) 0 0))]) (fun ⟨k, Ao, co⟩ W => (k ≤ xs27.length) ∧ RS encU 1 W w.heap.size A0 n0 xs0 ∧ Own encB 2 W w.heap.size 39 (.slice A25 xs27.length c26) xs27 ∧ Blk W g33 39 [(.int .i64 s21), (.int .i64 a22)] ∧ Own encB 2 W w40.heap.size 39 (.slice A50 (hearV xs27 ⟨s21, a22⟩).length c51) (hearV xs27 ⟨s21, a22⟩) ∧ Own encB 2 W w48.heap.size 39 (.slice A63 (hearV xs27 ⟨s21, a22⟩).length c64) (hearV xs27 ⟨s21, a22⟩) ∧ Own encB 2 W w91.heap.size 39 (.slice (some ⟨g105, 0, none⟩) 0 0) ([] : List Bt) ∧ Own encB 2 W w.heap.size 39 (.slice Ao (others ⟨s21, a22⟩ (xs27.take k)).length co) (others ⟨s21, a22⟩ (xs27.take k)) ∧ Ch [] w W ∧ w40.heap.size ≤ W.heap.size ∧ w48.heap.size ≤ W.heap.size ∧ w91.heap.size ≤ W.heap.size ∧ (∀ s ∈ obl (.slice A25 xs27.length c26), s ∉ obl (.slice Ao (others ⟨s21, a22⟩ (xs27.take k)).length co)) ∧ (∀ s ∈ obl (.slice A50 (hearV xs27 ⟨s21, a22⟩).length c51), s ∉ obl (.slice Ao (others ⟨s21, a22⟩ (xs27.take k)).length co)) ∧ (∀ s ∈ obl (.slice A63 (hearV xs27 ⟨s21, a22⟩).length c64), s ∉ obl (.slice Ao (others ⟨s21, a22⟩ (xs27.take k)).length co)) ∧ (∀ s ∈ obl (.slice (some ⟨g105, 0, none⟩) 0 0), s ∉ obl (.slice Ao (others ⟨s21, a22⟩ (xs27.take k)).length co)) ∧ (∀ s ∈ obl (.slice Ao (others ⟨s21, a22⟩ (xs27.take k)).length co), s ≠ g33)) (fun ⟨k, Ao, co⟩ => xs27.length - k) (0, (some ⟨g92, 0, none⟩), 0) ?_ ?_ ?_
      · exact ⟨rfl, rfl, rfl, rfl, rfl, rfl, rfl, trivial⟩
      · refine ⟨Nat.zero_le _, hR0, hO28, hB35, hO52, hO65, hO110, (hO97.less (by omega)), hc, (by omega), (by omega), (by omega), (fun s hs hs2 => by first | (have h1 := hO28.off s hs; have h2 := hub54 s hs2; omega) | (have h1 := hO28.off s hs; have h2 := hub67 s hs2; omega) | (have h1 := hO28.off s hs; have h2 := hub99 s hs2; omega) | (have h1 := hO28.off s hs; have h2 := hub112 s hs2; omega) | (have h1 := hO52.off s hs; have h2 := hub29 s hs2; omega) | (have h1 := hO52.off s hs; have h2 := hub67 s hs2; omega) | (have h1 := hO52.off s hs; have h2 := hub99 s hs2; omega) | (have h1 := hO52.off s hs; have h2 := hub112 s hs2; omega) | (have h1 := hO65.off s hs; have h2 := hub29 s hs2; omega) | (have h1 := hO65.off s hs; have h2 := hub54 s hs2; omega) | (have h1 := hO65.off s hs; have h2 := hub99 s hs2; omega) | (have h1 := hO65.off s hs; have h2 := hub112 s hs2; omega) | (have h1 := hO97.off s hs; have h2 := hub29 s hs2; omega) | (have h1 := hO97.off s hs; have h2 := hub54 s hs2; omega) | (have h1 := hO97.off s hs; have h2 := hub67 s hs2; omega) | (have h1 := hO97.off s hs; have h2 := hub112 s hs2; omega) | (have h1 := hO110.off s hs; have h2 := hub29 s hs2; omega) | (have h1 := hO110.off s hs; have h2 := hub54 s hs2; omega) | (have h1 := hO110.off s hs; have h2 := hub67 s hs2; omega) | (have h1 := hO110.off s hs; have h2 := hub99 s hs2; omega) | (have h1 := hub29 s hs; have h2 := hO52.off s hs2; omega) | (have h1 := hub29 s hs; have h2 := hO65.off s hs2; omega) | (have h1 := hub29 s hs; have h2 := hO97.off s hs2; omega) | (have h1 := hub29 s hs; have h2 := hO110.off s hs2; omega) | (have h1 := hub54 s hs; have h2 := hO28.off s hs2; omega) | (have h1 := hub54 s hs; have h2 := hO65.off s hs2; omega) | (have h1 := hub54 s hs; have h2 := hO97.off s hs2; omega) | (have h1 := hub54 s hs; have h2 := hO110.off s hs2; omega) | (have h1 := hub67 s hs; have h2 := hO28.off s hs2; omega) | (have h1 := hub67 s hs; have h2 := hO52.off s hs2; omega) | (have h1 := hub67 s hs; have h2 := hO97.off s hs2; omega) | (have h1 := hub67 s hs; have h2 := hO110.off s hs2; omega) | (have h1 := hub99 s hs; have h2 := hO28.off s hs2; omega) | (have h1 := hub99 s hs; have h2 := hO52.off s hs2; omega) | (have h1 := hub99 s hs; have h2 := hO65.off s hs2; omega) | (have h1 := hub99 s hs; have h2 := hO110.off s hs2; omega) | (have h1 := hub112 s hs; have h2 := hO28.off s hs2; omega) | (have h1 := hub112 s hs; have h2 := hO52.off s hs2; omega) | (have h1 := hub112 s hs; have h2 := hO65.off s hs2; omega) | (have h1 := hub112 s hs; have h2 := hO97.off s hs2; omega) | (simp [obl, Value.ownBlock] at hs; done) | (simp [obl, Value.ownBlock] at hs2; done)), (fun s hs hs2 => by first | (have h1 := hO28.off s hs; have h2 := hub54 s hs2; omega) | (have h1 := hO28.off s hs; have h2 := hub67 s hs2; omega) | (have h1 := hO28.off s hs; have h2 := hub99 s hs2; omega) | (have h1 := hO28.off s hs; have h2 := hub112 s hs2; omega) | (have h1 := hO52.off s hs; have h2 := hub29 s hs2; omega) | (have h1 := hO52.off s hs; have h2 := hub67 s hs2; omega) | (have h1 := hO52.off s hs; have h2 := hub99 s hs2; omega) | (have h1 := hO52.off s hs; have h2 := hub112 s hs2; omega) | (have h1 := hO65.off s hs; have h2 := hub29 s hs2; omega) | (have h1 := hO65.off s hs; have h2 := hub54 s hs2; omega) | (have h1 := hO65.off s hs; have h2 := hub99 s hs2; omega) | (have h1 := hO65.off s hs; have h2 := hub112 s hs2; omega) | (have h1 := hO97.off s hs; have h2 := hub29 s hs2; omega) | (have h1 := hO97.off s hs; have h2 := hub54 s hs2; omega) | (have h1 := hO97.off s hs; have h2 := hub67 s hs2; omega) | (have h1 := hO97.off s hs; have h2 := hub112 s hs2; omega) | (have h1 := hO110.off s hs; have h2 := hub29 s hs2; omega) | (have h1 := hO110.off s hs; have h2 := hub54 s hs2; omega) | (have h1 := hO110.off s hs; have h2 := hub67 s hs2; omega) | (have h1 := hO110.off s hs; have h2 := hub99 s hs2; omega) | (have h1 := hub29 s hs; have h2 := hO52.off s hs2; omega) | (have h1 := hub29 s hs; have h2 := hO65.off s hs2; omega) | (have h1 := hub29 s hs; have h2 := hO97.off s hs2; omega) | (have h1 := hub29 s hs; have h2 := hO110.off s hs2; omega) | (have h1 := hub54 s hs; have h2 := hO28.off s hs2; omega) | (have h1 := hub54 s hs; have h2 := hO65.off s hs2; omega) | (have h1 := hub54 s hs; have h2 := hO97.off s hs2; omega) | (have h1 := hub54 s hs; have h2 := hO110.off s hs2; omega) | (have h1 := hub67 s hs; have h2 := hO28.off s hs2; omega) | (have h1 := hub67 s hs; have h2 := hO52.off s hs2; omega) | (have h1 := hub67 s hs; have h2 := hO97.off s hs2; omega) | (have h1 := hub67 s hs; have h2 := hO110.off s hs2; omega) | (have h1 := hub99 s hs; have h2 := hO28.off s hs2; omega) | (have h1 := hub99 s hs; have h2 := hO52.off s hs2; omega) | (have h1 := hub99 s hs; have h2 := hO65.off s hs2; omega) | (have h1 := hub99 s hs; have h2 := hO110.off s hs2; omega) | (have h1 := hub112 s hs; have h2 := hO28.off s hs2; omega) | (have h1 := hub112 s hs; have h2 := hO52.off s hs2; omega) | (have h1 := hub112 s hs; have h2 := hO65.off s hs2; omega) | (have h1 := hub112 s hs; have h2 := hO97.off s hs2; omega) | (simp [obl, Value.ownBlock] at hs; done) | (simp [obl, Value.ownBlock] at hs2; done)), (fun s hs hs2 => by first | (have h1 := hO28.off s hs; have h2 := hub54 s hs2; omega) | (have h1 := hO28.off s hs; have h2 := hub67 s hs2; omega) | (have h1 := hO28.off s hs; have h2 := hub99 s hs2; omega) | (have h1 := hO28.off s hs; have h2 := hub112 s hs2; omega) | (have h1 := hO52.off s hs; have h2 := hub29 s hs2; omega) | (have h1 := hO52.off s hs; have h2 := hub67 s hs2; omega) | (have h1 := hO52.off s hs; have h2 := hub99 s hs2; omega) | (have h1 := hO52.off s hs; have h2 := hub112 s hs2; omega) | (have h1 := hO65.off s hs; have h2 := hub29 s hs2; omega) | (have h1 := hO65.off s hs; have h2 := hub54 s hs2; omega) | (have h1 := hO65.off s hs; have h2 := hub99 s hs2; omega) | (have h1 := hO65.off s hs; have h2 := hub112 s hs2; omega) | (have h1 := hO97.off s hs; have h2 := hub29 s hs2; omega) | (have h1 := hO97.off s hs; have h2 := hub54 s hs2; omega) | (have h1 := hO97.off s hs; have h2 := hub67 s hs2; omega) | (have h1 := hO97.off s hs; have h2 := hub112 s hs2; omega) | (have h1 := hO110.off s hs; have h2 := hub29 s hs2; omega) | (have h1 := hO110.off s hs; have h2 := hub54 s hs2; omega) | (have h1 := hO110.off s hs; have h2 := hub67 s hs2; omega) | (have h1 := hO110.off s hs; have h2 := hub99 s hs2; omega) | (have h1 := hub29 s hs; have h2 := hO52.off s hs2; omega) | (have h1 := hub29 s hs; have h2 := hO65.off s hs2; omega) | (have h1 := hub29 s hs; have h2 := hO97.off s hs2; omega) | (have h1 := hub29 s hs; have h2 := hO110.off s hs2; omega) | (have h1 := hub54 s hs; have h2 := hO28.off s hs2; omega) | (have h1 := hub54 s hs; have h2 := hO65.off s hs2; omega) | (have h1 := hub54 s hs; have h2 := hO97.off s hs2; omega) | (have h1 := hub54 s hs; have h2 := hO110.off s hs2; omega) | (have h1 := hub67 s hs; have h2 := hO28.off s hs2; omega) | (have h1 := hub67 s hs; have h2 := hO52.off s hs2; omega) | (have h1 := hub67 s hs; have h2 := hO97.off s hs2; omega) | (have h1 := hub67 s hs; have h2 := hO110.off s hs2; omega) | (have h1 := hub99 s hs; have h2 := hO28.off s hs2; omega) | (have h1 := hub99 s hs; have h2 := hO52.off s hs2; omega) | (have h1 := hub99 s hs; have h2 := hO65.off s hs2; omega) | (have h1 := hub99 s hs; have h2 := hO110.off s hs2; omega) | (have h1 := hub112 s hs; have h2 := hO28.off s hs2; omega) | (have h1 := hub112 s hs; have h2 := hO52.off s hs2; omega) | (have h1 := hub112 s hs; have h2 := hO65.off s hs2; omega) | (have h1 := hub112 s hs; have h2 := hO97.off s hs2; omega) | (simp [obl, Value.ownBlock] at hs; done) | (simp [obl, Value.ownBlock] at hs2; done)), (fun s hs hs2 => by first | (have h1 := hO28.off s hs; have h2 := hub54 s hs2; omega) | (have h1 := hO28.off s hs; have h2 := hub67 s hs2; omega) | (have h1 := hO28.off s hs; have h2 := hub99 s hs2; omega) | (have h1 := hO28.off s hs; have h2 := hub112 s hs2; omega) | (have h1 := hO52.off s hs; have h2 := hub29 s hs2; omega) | (have h1 := hO52.off s hs; have h2 := hub67 s hs2; omega) | (have h1 := hO52.off s hs; have h2 := hub99 s hs2; omega) | (have h1 := hO52.off s hs; have h2 := hub112 s hs2; omega) | (have h1 := hO65.off s hs; have h2 := hub29 s hs2; omega) | (have h1 := hO65.off s hs; have h2 := hub54 s hs2; omega) | (have h1 := hO65.off s hs; have h2 := hub99 s hs2; omega) | (have h1 := hO65.off s hs; have h2 := hub112 s hs2; omega) | (have h1 := hO97.off s hs; have h2 := hub29 s hs2; omega) | (have h1 := hO97.off s hs; have h2 := hub54 s hs2; omega) | (have h1 := hO97.off s hs; have h2 := hub67 s hs2; omega) | (have h1 := hO97.off s hs; have h2 := hub112 s hs2; omega) | (have h1 := hO110.off s hs; have h2 := hub29 s hs2; omega) | (have h1 := hO110.off s hs; have h2 := hub54 s hs2; omega) | (have h1 := hO110.off s hs; have h2 := hub67 s hs2; omega) | (have h1 := hO110.off s hs; have h2 := hub99 s hs2; omega) | (have h1 := hub29 s hs; have h2 := hO52.off s hs2; omega) | (have h1 := hub29 s hs; have h2 := hO65.off s hs2; omega) | (have h1 := hub29 s hs; have h2 := hO97.off s hs2; omega) | (have h1 := hub29 s hs; have h2 := hO110.off s hs2; omega) | (have h1 := hub54 s hs; have h2 := hO28.off s hs2; omega) | (have h1 := hub54 s hs; have h2 := hO65.off s hs2; omega) | (have h1 := hub54 s hs; have h2 := hO97.off s hs2; omega) | (have h1 := hub54 s hs; have h2 := hO110.off s hs2; omega) | (have h1 := hub67 s hs; have h2 := hO28.off s hs2; omega) | (have h1 := hub67 s hs; have h2 := hO52.off s hs2; omega) | (have h1 := hub67 s hs; have h2 := hO97.off s hs2; omega) | (have h1 := hub67 s hs; have h2 := hO110.off s hs2; omega) | (have h1 := hub99 s hs; have h2 := hO28.off s hs2; omega) | (have h1 := hub99 s hs; have h2 := hO52.off s hs2; omega) | (have h1 := hub99 s hs; have h2 := hO65.off s hs2; omega) | (have h1 := hub99 s hs; have h2 := hO110.off s hs2; omega) | (have h1 := hub112 s hs; have h2 := hO28.off s hs2; omega) | (have h1 := hub112 s hs; have h2 := hO52.off s hs2; omega) | (have h1 := hub112 s hs; have h2 := hO65.off s hs2; omega) | (have h1 := hub112 s hs; have h2 := hO97.off s hs2; omega) | (simp [obl, Value.ownBlock] at hs; done) | (simp [obl, Value.ownBlock] at hs2; done)), (fun s hs => by first | (have h1 := hO28.off s hs; omega) | (have h1 := hO52.off s hs; omega) | (have h1 := hO65.off s hs; omega) | (have h1 := hO97.off s hs; omega) | (have h1 := hO110.off s hs; omega) | (have h1 := hub29 s hs; omega) | (have h1 := hub54 s hs; omega) | (have h1 := hub67 s hs; omega) | (have h1 := hub99 s hs; omega) | (have h1 := hub112 s hs; omega) | exact dj_asg hdj39 s hs | (simp [obl, Value.ownBlock] at hs; done) | (simp [obl, Value.ownBlock] at hs; omega))⟩
      · rintro ⟨k, Ao, co⟩ J131 w119 ⟨hk11, hR0, hO28, hB35, hO52, hO65, hO110, hOut, hc, hmono120, hmono121, hmono122, hdj123, hdj124, hdj125, hdj126, hdj127⟩ K128 hK129
        have hsz133 := hc.size
        have hub134 := hO28.lt
        have hub135 := hO52.lt
        have hub136 := hO65.lt
        have hub137 := hO110.lt
        have hubO := hOut.lt
        have hol := others_le ⟨s21, a22⟩ (xs27.take k); have htl : (xs27.take k).length ≤ k := List.length_take_le _ _
        refine cw_seq fun K138 hK139 => ?_
        refine cw_seq fun K140 hK141 => ?_
        refine cw_region fun K142 hK143 => ?_
        refine rw_cons (op_pv (w0 rfl) rfl rfl (pv_move (v := (.int .i64 (k : Int))) rfl rfl) ?_)
        refine rw_cons (op_pv (w0 rfl) rfl rfl (pv_move (v := (.slice A25 xs27.length c26)) rfl rfl) ?_)
        refine rw_cons (op_pv (w0 rfl) rfl rfl (pv_len Try.underlying23 rfl rfl) ?_)
        refine rw_cons (op_pv (w0 rfl) rfl rfl (pv_lss rfl rfl rfl) ?_)
        refine rw_nil (hK143 _ _ ?_)
        refine hK141 _ _ ?_
        refine cw_cond rfl (fun h144 => ?_) (fun h144 => ?_)
        · -- then
          replace h144 := of_decide_eq_true h144
          refine cw_skip ?_
          refine hK139 _ _ ?_
          refine cw_seq fun K145 hK146 => ?_
          refine cw_block ?_
          refine cw_seq fun K147 hK148 => ?_
          refine cw_drawn (fun u => Ch [] w119 u) (.free 0 (.free 1 (.free 2 (.free 3 (.free 4 (.free 5 (.free 6 (.free 7 (.done))))))))) (by kernel_rfl) (by kernel_rfl) (Ch.refl _ _).drew fun K152 hK153 => ?_
          obtain ⟨w149, hw_, hch150, hsz151⟩ : ∃ w1 : World, w1 = w119.drew ∧ Ch [] w119 w1 ∧ w1.heap.size = w119.heap.size := ⟨_, rfl, (Ch.refl _ _).drew, rfl⟩
          rw [← hw_]; clear hw_
          have hr154 : Ch [] w119 w149 := hch150.sub (fun s hs => by cases hs)
          have hR0_r := hR0
          have hO28_r := hO28
          have hB35_r := hB35
          have hO52_r := hO52
          have hO65_r := hO65
          have hO110_r := hO110
          have hOut_r := hOut
          have hsz155 := hch150.size
          replace hR0 := hR0.ch0 hch150
          replace hO28 := hO28.ch0 hch150
          replace hB35 := hB35.ch0 hch150
          replace hO52 := hO52.ch0 hch150
          replace hO65 := hO65.ch0 hch150
          replace hO110 := hO110.ch0 hch150
          replace hOut := hOut.ch0 hch150
          replace hc := hc.step0 hch150
          refine tw_free rfl (w0 rfl) rfl rfl (fun u hu => (pv_move (v := (.slice A25 xs27.length c26)) rfl rfl : PV _ _ _ _) u) ?_
          refine tw_free rfl (w0 rfl) rfl rfl (fun u hu => (pv_move (v := (.int .i64 (k : Int))) rfl rfl : PV _ _ _ _) u) ?_
          refine tw_free rfl (w0 rfl) rfl rfl (fun u hu => (pv_idx Try.underlying23 T39 rfl rfl rfl ((hO28.rs (fun _ => rfl)).some (k := k) (by omega)) (by omega) (by omega) : PV _ _ _ _) u) ?_
          refine tw_free rfl (w0 rfl) rfl rfl (fun u hu => (pv_fld F39_0 rfl rfl : PV _ _ _ _) u) ?_
          refine tw_free rfl (w0 rfl) rfl rfl (fun u hu => lv_load T3 rfl rfl (((hO28_r.ch0 hu).rs (fun _ => rfl)).cellE (k := k) (j := 0) (by omega) rfl)) ?_
          refine tw_free rfl (w0 rfl) rfl rfl (fun u hu => (pv_fld F39_0 rfl rfl : PV _ _ _ _) u) ?_
          refine tw_free rfl (w0 rfl) rfl rfl (fun u hu => lv_load T3 rfl rfl ((hB35_r.ch hu (by simp)).cellA (i := 0) rfl)) ?_
          refine tw_free rfl (w0 rfl) rfl rfl (fun u hu => (pv_neq rfl rfl rfl : PV _ _ _ _) u) ?_
          clear hB35_r
          clear hO110_r
          clear hO28_r
          clear hO52_r
          clear hO65_r
          clear hOut_r
          clear hR0_r
          refine tw_done (hK153 _ _ ?_)
          refine hK148 _ _ ?_
          refine cw_cond rfl (fun h156 => ?_) (fun h156 => ?_)
          · -- then
            replace h156 := of_decide_eq_true h156
            refine cw_region fun K157 hK158 => ?_
            refine rw_cons (op_pv (w0 rfl) rfl rfl (pv_move (v := (.slice Ao (others ⟨s21, a22⟩ (xs27.take k)).length co)) rfl rfl) ?_)
            refine rw_cons (op_pv (w0 rfl) rfl rfl (pv_move (v := (.slice A25 xs27.length c26)) rfl rfl) ?_)
            refine rw_cons (op_pv (w0 rfl) rfl rfl (pv_move (v := (.int .i64 (k : Int))) rfl rfl) ?_)
            refine rw_cons (op_pv (w0 rfl) rfl rfl (pv_idx Try.underlying23 T39 rfl rfl rfl ((hO28.rs (fun _ => rfl)).some (k := k) (by omega)) (by omega) (by omega)) ?_)
            refine rw_cons (op_lv (w0 rfl) rfl rfl (lv_loadN T39 rfl rfl rfl (fun j v hv => (hO28.rs (fun _ => rfl)).cellE (k := k) (by omega) hv)) ?_)
            refine rw_cons (op_bslice [(.agg #[(.int .i64 (el xs27 k).s), (.int .i64 (el xs27 k).a)])] Try.underlying23 T39 (w0 rfl) rfl rfl rfl rfl rfl (by simp [Value.cells]) (by decide) ?_)
            intro g160 w159 hg163 hg164 hK162 hch161
            have hO165 : Own encB 2 w159 w149.heap.size 39 (.slice (some ⟨g160, 0, none⟩) 1 1) ([⟨(el xs27 k).s, (el xs27 k).a⟩] : List Bt) := Blk.own (xs := ([⟨(el xs27 k).s, (el xs27 k).a⟩] : List Bt)) hK162 (by omega) rfl (by decide) rfl
            have hsz166 := hch161.size
            replace hR0 := hR0.ch0 hch161
            replace hO28 := hO28.ch0 hch161
            replace hB35 := hB35.ch0 hch161
            replace hO52 := hO52.ch0 hch161
            replace hO65 := hO65.ch0 hch161
            replace hO110 := hO110.ch0 hch161
            replace hOut := hOut.ch0 hch161
            replace hc := hc.step0 hch161
            have hub167 := hO165.lt
            refine rw_cons (op_append Try.underlying23 T39 (fun _ => rfl) rfl (by decide) (fun _ => one_all rfl) (w0 rfl) rfl rfl rfl rfl rfl hOut (hO165.rs (fun _ => rfl)) (by unfold maxLen; first | omega | (simp; omega)) (by first | omega | (simp; omega)) (by omega) ?_)
            rintro v168 w169 hO170 hch171 hs172
            have hl173 : ((others ⟨s21, a22⟩ (xs27.take k)) ++ ([⟨(el xs27 k).s, (el xs27 k).a⟩] : List Bt)).length = (others ⟨s21, a22⟩ (xs27.take k)).length + 1 := by first | (have hl0 := (hO165.rs (fun _ => rfl)).len; omega) | (have hl0 := (hO165.rs (fun _ => rfl)).len; simp only [List.length_append, List.length_cons, List.length_nil] at hl0 ⊢; omega) | simp | rfl
            clear hO165
            have hgl179 := hB35.lt
            have hsz180 := hch171.size
            replace hR0 := hR0.ch hch171 (hOut.off.le (by omega))
            replace hO28 := hO28.ch hch171 (dj_as hdj123)
            replace hB35 := hB35.ch hch171 (fun hs => dj_asg hdj127 _ hs rfl)
            replace hO52 := hO52.ch hch171 (dj_as hdj124)
            replace hO65 := hO65.ch hch171 (dj_as hdj125)
            replace hO110 := hO110.ch hch171 (dj_as hdj126)
            replace hc := (hOut.off.le (by omega)).step hc hch171
            have hub181 := hO170.lt
            obtain ⟨A182, c183, hv184, hcap185, hcap186⟩ := hO170.form; subst hv184
            have hdj174 : ∀ s ∈ obl (.slice A182 ((others ⟨s21, a22⟩ (xs27.take k)) ++ ([⟨(el xs27 k).s, (el xs27 k).a⟩] : List Bt)).length c183), s ∉ obl (.slice A25 xs27.length c26) := dj_new hs172 (dj_sw hdj123) (fun s hs => by have := hub134 s hs; omega)
            have hdj175 : ∀ s ∈ obl (.slice A182 ((others ⟨s21, a22⟩ (xs27.take k)) ++ ([⟨(el xs27 k).s, (el xs27 k).a⟩] : List Bt)).length c183), s ∉ obl (.slice A50 (hearV xs27 ⟨s21, a22⟩).length c51) := dj_new hs172 (dj_sw hdj124) (fun s hs => by have := hub135 s hs; omega)
            have hdj176 : ∀ s ∈ obl (.slice A182 ((others ⟨s21, a22⟩ (xs27.take k)) ++ ([⟨(el xs27 k).s, (el xs27 k).a⟩] : List Bt)).length c183), s ∉ obl (.slice A63 (hearV xs27 ⟨s21, a22⟩).length c64) := dj_new hs172 (dj_sw hdj125) (fun s hs => by have := hub136 s hs; omega)
            have hdj177 : ∀ s ∈ obl (.slice A182 ((others ⟨s21, a22⟩ (xs27.take k)) ++ ([⟨(el xs27 k).s, (el xs27 k).a⟩] : List Bt)).length c183), s ∉ obl (.slice (some ⟨g105, 0, none⟩) 0 0) := dj_new hs172 (dj_sw hdj126) (fun s hs => by have := hub137 s hs; omega)
            have hdj178 : ∀ s ∈ obl (.slice A182 ((others ⟨s21, a22⟩ (xs27.take k)) ++ ([⟨(el xs27 k).s, (el xs27 k).a⟩] : List Bt)).length c183), s ≠ g33 := dj_newg hs172 (dj_asg hdj127) (by omega)
            refine rw_cons (op_pv (w0 rfl) rfl rfl (pv_assign (v := (.slice A182 ((others ⟨s21, a22⟩ (xs27.take k)) ++ ([⟨(el xs27 k).s, (el xs27 k).a⟩] : List Bt)).length c183)) rfl rfl) ?_)
            refine rw_nil (hK158 _ _ ?_)
            refine hK146 _ _ ?_
            refine cw_region fun K187 hK188 => ?_
            refine rw_cons (op_pv (w0 rfl) rfl rfl (pv_move (v := (.int .i64 (k : Int))) rfl rfl) ?_)
            refine rw_cons (op_pv (w0 rfl) rfl rfl (pv_add rfl rfl rfl (by omega) (by omega)) ?_)
            refine rw_cons (op_pv (w0 rfl) rfl rfl (pv_assign (v := (.int .i64 ((k : Int) + 1))) rfl rfl) ?_)
            refine rw_nil (hK188 _ _ ?_)
            have hEQ189 : ((others ⟨s21, a22⟩ (xs27.take k)) ++ ([⟨(el xs27 k).s, (el xs27 k).a⟩] : List Bt)) = others ⟨s21, a22⟩ (xs27.take (k + 1)) := by exact (others_yes (x := ⟨s21, a22⟩) (xs := xs27) (k := k) (by omega) (by show Bt.s (el _ _) ≠ s21; omega)).symm
            have hO190 := own_as hO170 hEQ189
            refine hK129 _ _ (k + 1, A182, c183) ⟨(sl_as hO170 hEQ189), (iv (by omega)), rfl, rfl, rfl, rfl, rfl, trivial⟩ ⟨?_, hR0, hO28, hB35, hO52, hO65, hO110, hO190, hc, (by omega), (by omega), (by omega), (dj_sw hdj174), (dj_sw hdj175), (dj_sw hdj176), (dj_sw hdj177), (dj_asg hdj178)⟩ ?_
            · omega
            · (first | omega | (simp only []; omega))
          · -- else
            replace h156 := of_decide_eq_false h156
            refine cw_skip ?_
            refine hK146 _ _ ?_
            refine cw_region fun K191 hK192 => ?_
            refine rw_cons (op_pv (w0 rfl) rfl rfl (pv_move (v := (.int .i64 (k : Int))) rfl rfl) ?_)
            refine rw_cons (op_pv (w0 rfl) rfl rfl (pv_add rfl rfl rfl (by omega) (by omega)) ?_)
            refine rw_cons (op_pv (w0 rfl) rfl rfl (pv_assign (v := (.int .i64 ((k : Int) + 1))) rfl rfl) ?_)
            refine rw_nil (hK192 _ _ ?_)
            have hEQ193 : (others ⟨s21, a22⟩ (xs27.take k)) = others ⟨s21, a22⟩ (xs27.take (k + 1)) := by exact (others_no (x := ⟨s21, a22⟩) (xs := xs27) (k := k) (by omega) (by show Bt.s (el _ _) = s21; omega)).symm
            have hO194 := own_as hOut hEQ193
            refine hK129 _ _ (k + 1, Ao, co) ⟨(sl_as hOut hEQ193), (iv (by omega)), rfl, rfl, rfl, rfl, rfl, trivial⟩ ⟨?_, hR0, hO28, hB35, hO52, hO65, hO110, hO194, hc, (by omega), (by omega), (by omega), (dj_as hdj123), (dj_as hdj124), (dj_as hdj125), (dj_as hdj126), (dj_asg hdj127)⟩ ?_
            · omega
            · (first | omega | (simp only []; omega))
        · -- else
          replace h144 := of_decide_eq_false h144
          refine cw_exit ?_
          refine hK114 _ _ ?_
          refine cw_seq fun K195 hK196 => ?_
          refine cw_seq fun K197 hK198 => ?_
          refine cw_region fun K199 hK200 => ?_
          refine rw_cons (op_pv (w0 rfl) rfl rfl (pv_assign (v := (.int .i64 0)) rfl rfl) ?_)
          refine rw_nil (hK200 _ _ ?_)
          refine hK198 _ _ ?_
          refine cw_block ?_
          refine cw_loop (σ := Nat × (Option Addr) × Nat) (fun ⟨m, AoB, coB⟩ => [(10, (.slice AoB (others ⟨s21, a22⟩ ((hearV xs27 ⟨s21, a22⟩).take m)).length coB)), (12, (.int .i64 (m : Int))), (2, (.bool false)), (4, (.pointer (some (⟨g33, 0, none⟩)))), (5, (.slice A50 (hearV xs27 ⟨s21, a22⟩).length c51)), (9, (.slice Ao (others ⟨s21, a22⟩ (xs27.take k)).length co))]) (fun ⟨m, AoB, coB⟩ W => (m ≤ (hearV xs27 ⟨s21, a22⟩).length) ∧ RS encU 1 W w.heap.size A0 n0 xs0 ∧ Own encB 2 W w.heap.size 39 (.slice A25 xs27.length c26) xs27 ∧ Blk W g33 39 [(.int .i64 s21), (.int .i64 a22)] ∧ Own encB 2 W w40.heap.size 39 (.slice A50 (hearV xs27 ⟨s21, a22⟩).length c51) (hearV xs27 ⟨s21, a22⟩) ∧ Own encB 2 W w48.heap.size 39 (.slice A63 (hearV xs27 ⟨s21, a22⟩).length c64) (hearV xs27 ⟨s21, a22⟩) ∧ Own encB 2 W w.heap.size 39 (.slice Ao (others ⟨s21, a22⟩ (xs27.take k)).length co) (others ⟨s21, a22⟩ (xs27.take k)) ∧ Own encB 2 W w.heap.size 39 (.slice AoB (others ⟨s21, a22⟩ ((hearV xs27 ⟨s21, a22⟩).take m)).length coB) (others ⟨s21, a22⟩ ((hearV xs27 ⟨s21, a22⟩).take m)) ∧ Ch [] w W ∧ w40.heap.size ≤ W.heap.size ∧ w48.heap.size ≤ W.heap.size ∧ (∀ s ∈ obl (.slice A25 xs27.length c26), s ∉ obl (.slice AoB (others ⟨s21, a22⟩ ((hearV xs27 ⟨s21, a22⟩).take m)).length coB)) ∧ (∀ s ∈ obl (.slice A50 (hearV xs27 ⟨s21, a22⟩).length c51), s ∉ obl (.slice AoB (others ⟨s21, a22⟩ ((hearV xs27 ⟨s21, a22⟩).take m)).length coB)) ∧ (∀ s ∈ obl (.slice A63 (hearV xs27 ⟨s21, a22⟩).length c64), s ∉ obl (.slice AoB (others ⟨s21, a22⟩ ((hearV xs27 ⟨s21, a22⟩).take m)).length coB)) ∧ (∀ s ∈ obl (.slice Ao (others ⟨s21, a22⟩ (xs27.take k)).length co), s ∉ obl (.slice AoB (others ⟨s21, a22⟩ ((hearV xs27 ⟨s21, a22⟩).take m)).length coB)) ∧ (∀ s ∈ obl (.slice AoB (others ⟨s21, a22⟩ ((hearV xs27 ⟨s21, a22⟩).take m)).length coB), s ≠ g33)) (fun ⟨m, AoB, coB⟩ => (hearV xs27 ⟨s21, a22⟩).length - m) (0, (some ⟨g105, 0, none⟩), 0) ?_ ?_ ?_
          · exact ⟨rfl, rfl, rfl, rfl, rfl, rfl, trivial⟩
          · refine ⟨Nat.zero_le _, hR0, hO28, hB35, hO52, hO65, hOut, (hO110.less (by omega)), hc, (by omega), (by omega), (fun s hs hs2 => by first | (have h1 := hO28.off s hs; have h2 := hub135 s hs2; omega) | (have h1 := hO28.off s hs; have h2 := hub54 s hs2; omega) | (have h1 := hO28.off s hs; have h2 := hub136 s hs2; omega) | (have h1 := hO28.off s hs; have h2 := hub67 s hs2; omega) | (have h1 := hO28.off s hs; have h2 := hub137 s hs2; omega) | (have h1 := hO28.off s hs; have h2 := hub112 s hs2; omega) | (have h1 := hO28.off s hs; have h2 := hubO s hs2; omega) | (have h1 := hO52.off s hs; have h2 := hub134 s hs2; omega) | (have h1 := hO52.off s hs; have h2 := hub29 s hs2; omega) | (have h1 := hO52.off s hs; have h2 := hub136 s hs2; omega) | (have h1 := hO52.off s hs; have h2 := hub67 s hs2; omega) | (have h1 := hO52.off s hs; have h2 := hub137 s hs2; omega) | (have h1 := hO52.off s hs; have h2 := hub112 s hs2; omega) | (have h1 := hO52.off s hs; have h2 := hubO s hs2; omega) | (have h1 := hO65.off s hs; have h2 := hub134 s hs2; omega) | (have h1 := hO65.off s hs; have h2 := hub29 s hs2; omega) | (have h1 := hO65.off s hs; have h2 := hub135 s hs2; omega) | (have h1 := hO65.off s hs; have h2 := hub54 s hs2; omega) | (have h1 := hO65.off s hs; have h2 := hub137 s hs2; omega) | (have h1 := hO65.off s hs; have h2 := hub112 s hs2; omega) | (have h1 := hO65.off s hs; have h2 := hubO s hs2; omega) | (have h1 := hO110.off s hs; have h2 := hub134 s hs2; omega) | (have h1 := hO110.off s hs; have h2 := hub29 s hs2; omega) | (have h1 := hO110.off s hs; have h2 := hub135 s hs2; omega) | (have h1 := hO110.off s hs; have h2 := hub54 s hs2; omega) | (have h1 := hO110.off s hs; have h2 := hub136 s hs2; omega) | (have h1 := hO110.off s hs; have h2 := hub67 s hs2; omega) | (have h1 := hO110.off s hs; have h2 := hubO s hs2; omega) | (have h1 := hOut.off s hs; have h2 := hub134 s hs2; omega) | (have h1 := hOut.off s hs; have h2 := hub29 s hs2; omega) | (have h1 := hOut.off s hs; have h2 := hub135 s hs2; omega) | (have h1 := hOut.off s hs; have h2 := hub54 s hs2; omega) | (have h1 := hOut.off s hs; have h2 := hub136 s hs2; omega) | (have h1 := hOut.off s hs; have h2 := hub67 s hs2; omega) | (have h1 := hOut.off s hs; have h2 := hub137 s hs2; omega) | (have h1 := hOut.off s hs; have h2 := hub112 s hs2; omega) | (have h1 := hub134 s hs; have h2 := hO52.off s hs2; omega) | (have h1 := hub29 s hs; have h2 := hO52.off s hs2; omega) | (have h1 := hub134 s hs; have h2 := hO65.off s hs2; omega) | (have h1 := hub29 s hs; have h2 := hO65.off s hs2; omega) | (have h1 := hub134 s hs; have h2 := hO110.off s hs2; omega) | (have h1 := hub29 s hs; have h2 := hO110.off s hs2; omega) | (have h1 := hub134 s hs; have h2 := hOut.off s hs2; omega) | (have h1 := hub29 s hs; have h2 := hOut.off s hs2; omega) | (have h1 := hub135 s hs; have h2 := hO28.off s hs2; omega) | (have h1 := hub54 s hs; have h2 := hO28.off s hs2; omega) | (have h1 := hub135 s hs; have h2 := hO65.off s hs2; omega) | (have h1 := hub54 s hs; have h2 := hO65.off s hs2; omega) | (have h1 := hub135 s hs; have h2 := hO110.off s hs2; omega) | (have h1 := hub54 s hs; have h2 := hO110.off s hs2; omega) | (have h1 := hub135 s hs; have h2 := hOut.off s hs2; omega) | (have h1 := hub54 s hs; have h2 := hOut.off s hs2; omega) | (have h1 := hub136 s hs; have h2 := hO28.off s hs2; omega) | (have h1 := hub67 s hs; have h2 := hO28.off s hs2; omega) | (have h1 := hub136 s hs; have h2 := hO52.off s hs2; omega) | (have h1 := hub67 s hs; have h2 := hO52.off s hs2; omega) | (have h1 := hub136 s hs; have h2 := hO110.off s hs2; omega) | (have h1 := hub67 s hs; have h2 := hO110.off s hs2; omega) | (have h1 := hub136 s hs; have h2 := hOut.off s hs2; omega) | (have h1 := hub67 s hs; have h2 := hOut.off s hs2; omega) | (have h1 := hub137 s hs; have h2 := hO28.off s hs2; omega) | (have h1 := hub112 s hs; have h2 := hO28.off s hs2; omega) | (have h1 := hub137 s hs; have h2 := hO52.off s hs2; omega) | (have h1 := hub112 s hs; have h2 := hO52.off s hs2; omega) | (have h1 := hub137 s hs; have h2 := hO65.off s hs2; omega) | (have h1 := hub112 s hs; have h2 := hO65.off s hs2; omega) | (have h1 := hub137 s hs; have h2 := hOut.off s hs2; omega) | (have h1 := hub112 s hs; have h2 := hOut.off s hs2; omega) | (have h1 := hubO s hs; have h2 := hO28.off s hs2; omega) | (have h1 := hubO s hs; have h2 := hO52.off s hs2; omega) | (have h1 := hubO s hs; have h2 := hO65.off s hs2; omega) | (have h1 := hubO s hs; have h2 := hO110.off s hs2; omega) | (simp [obl, Value.ownBlock] at hs; done) | (simp [obl, Value.ownBlock] at hs2; done) | exact dj_as hdj123 s hs hs2 | exact dj_as hdj124 s hs hs2 | exact dj_as hdj125 s hs hs2 | exact dj_as hdj126 s hs hs2 | exact dj_sw hdj123 s hs hs2 | exact dj_sw hdj124 s hs hs2 | exact dj_sw hdj125 s hs hs2 | exact dj_sw hdj126 s hs hs2), (fun s hs hs2 => by first | (have h1 := hO28.off s hs; have h2 := hub135 s hs2; omega) | (have h1 := hO28.off s hs; have h2 := hub54 s hs2; omega) | (have h1 := hO28.off s hs; have h2 := hub136 s hs2; omega) | (have h1 := hO28.off s hs; have h2 := hub67 s hs2; omega) | (have h1 := hO28.off s hs; have h2 := hub137 s hs2; omega) | (have h1 := hO28.off s hs; have h2 := hub112 s hs2; omega) | (have h1 := hO28.off s hs; have h2 := hubO s hs2; omega) | (have h1 := hO52.off s hs; have h2 := hub134 s hs2; omega) | (have h1 := hO52.off s hs; have h2 := hub29 s hs2; omega) | (have h1 := hO52.off s hs; have h2 := hub136 s hs2; omega) | (have h1 := hO52.off s hs; have h2 := hub67 s hs2; omega) | (have h1 := hO52.off s hs; have h2 := hub137 s hs2; omega) | (have h1 := hO52.off s hs; have h2 := hub112 s hs2; omega) | (have h1 := hO52.off s hs; have h2 := hubO s hs2; omega) | (have h1 := hO65.off s hs; have h2 := hub134 s hs2; omega) | (have h1 := hO65.off s hs; have h2 := hub29 s hs2; omega) | (have h1 := hO65.off s hs; have h2 := hub135 s hs2; omega) | (have h1 := hO65.off s hs; have h2 := hub54 s hs2; omega) | (have h1 := hO65.off s hs; have h2 := hub137 s hs2; omega) | (have h1 := hO65.off s hs; have h2 := hub112 s hs2; omega) | (have h1 := hO65.off s hs; have h2 := hubO s hs2; omega) | (have h1 := hO110.off s hs; have h2 := hub134 s hs2; omega) | (have h1 := hO110.off s hs; have h2 := hub29 s hs2; omega) | (have h1 := hO110.off s hs; have h2 := hub135 s hs2; omega) | (have h1 := hO110.off s hs; have h2 := hub54 s hs2; omega) | (have h1 := hO110.off s hs; have h2 := hub136 s hs2; omega) | (have h1 := hO110.off s hs; have h2 := hub67 s hs2; omega) | (have h1 := hO110.off s hs; have h2 := hubO s hs2; omega) | (have h1 := hOut.off s hs; have h2 := hub134 s hs2; omega) | (have h1 := hOut.off s hs; have h2 := hub29 s hs2; omega) | (have h1 := hOut.off s hs; have h2 := hub135 s hs2; omega) | (have h1 := hOut.off s hs; have h2 := hub54 s hs2; omega) | (have h1 := hOut.off s hs; have h2 := hub136 s hs2; omega) | (have h1 := hOut.off s hs; have h2 := hub67 s hs2; omega) | (have h1 := hOut.off s hs; have h2 := hub137 s hs2; omega) | (have h1 := hOut.off s hs; have h2 := hub112 s hs2; omega) | (have h1 := hub134 s hs; have h2 := hO52.off s hs2; omega) | (have h1 := hub29 s hs; have h2 := hO52.off s hs2; omega) | (have h1 := hub134 s hs; have h2 := hO65.off s hs2; omega) | (have h1 := hub29 s hs; have h2 := hO65.off s hs2; omega) | (have h1 := hub134 s hs; have h2 := hO110.off s hs2; omega) | (have h1 := hub29 s hs; have h2 := hO110.off s hs2; omega) | (have h1 := hub134 s hs; have h2 := hOut.off s hs2; omega) | (have h1 := hub29 s hs; have h2 := hOut.off s hs2; omega) | (have h1 := hub135 s hs; have h2 := hO28.off s hs2; omega) | (have h1 := hub54 s hs; have h2 := hO28.off s hs2; omega) | (have h1 := hub135 s hs; have h2 := hO65.off s hs2; omega) | (have h1 := hub54 s hs; have h2 := hO65.off s hs2; omega) | (have h1 := hub135 s hs; have h2 := hO110.off s hs2; omega) | (have h1 := hub54 s hs; have h2 := hO110.off s hs2; omega) | (have h1 := hub135 s hs; have h2 := hOut.off s hs2; omega) | (have h1 := hub54 s hs; have h2 := hOut.off s hs2; omega) | (have h1 := hub136 s hs; have h2 := hO28.off s hs2; omega) | (have h1 := hub67 s hs; have h2 := hO28.off s hs2; omega) | (have h1 := hub136 s hs; have h2 := hO52.off s hs2; omega) | (have h1 := hub67 s hs; have h2 := hO52.off s hs2; omega) | (have h1 := hub136 s hs; have h2 := hO110.off s hs2; omega) | (have h1 := hub67 s hs; have h2 := hO110.off s hs2; omega) | (have h1 := hub136 s hs; have h2 := hOut.off s hs2; omega) | (have h1 := hub67 s hs; have h2 := hOut.off s hs2; omega) | (have h1 := hub137 s hs; have h2 := hO28.off s hs2; omega) | (have h1 := hub112 s hs; have h2 := hO28.off s hs2; omega) | (have h1 := hub137 s hs; have h2 := hO52.off s hs2; omega) | (have h1 := hub112 s hs; have h2 := hO52.off s hs2; omega) | (have h1 := hub137 s hs; have h2 := hO65.off s hs2; omega) | (have h1 := hub112 s hs; have h2 := hO65.off s hs2; omega) | (have h1 := hub137 s hs; have h2 := hOut.off s hs2; omega) | (have h1 := hub112 s hs; have h2 := hOut.off s hs2; omega) | (have h1 := hubO s hs; have h2 := hO28.off s hs2; omega) | (have h1 := hubO s hs; have h2 := hO52.off s hs2; omega) | (have h1 := hubO s hs; have h2 := hO65.off s hs2; omega) | (have h1 := hubO s hs; have h2 := hO110.off s hs2; omega) | (simp [obl, Value.ownBlock] at hs; done) | (simp [obl, Value.ownBlock] at hs2; done) | exact dj_as hdj123 s hs hs2 | exact dj_as hdj124 s hs hs2 | exact dj_as hdj125 s hs hs2 | exact dj_as hdj126 s hs hs2 | exact dj_sw hdj123 s hs hs2 | exact dj_sw hdj124 s hs hs2 | exact dj_sw hdj125 s hs hs2 | exact dj_sw hdj126 s hs hs2), (fun s hs hs2 => by first | (have h1 := hO28.off s hs; have h2 := hub135 s hs2; omega) | (have h1 := hO28.off s hs; have h2 := hub54 s hs2; omega) | (have h1 := hO28.off s hs; have h2 := hub136 s hs2; omega) | (have h1 := hO28.off s hs; have h2 := hub67 s hs2; omega) | (have h1 := hO28.off s hs; have h2 := hub137 s hs2; omega) | (have h1 := hO28.off s hs; have h2 := hub112 s hs2; omega) | (have h1 := hO28.off s hs; have h2 := hubO s hs2; omega) | (have h1 := hO52.off s hs; have h2 := hub134 s hs2; omega) | (have h1 := hO52.off s hs; have h2 := hub29 s hs2; omega) | (have h1 := hO52.off s hs; have h2 := hub136 s hs2; omega) | (have h1 := hO52.off s hs; have h2 := hub67 s hs2; omega) | (have h1 := hO52.off s hs; have h2 := hub137 s hs2; omega) | (have h1 := hO52.off s hs; have h2 := hub112 s hs2; omega) | (have h1 := hO52.off s hs; have h2 := hubO s hs2; omega) | (have h1 := hO65.off s hs; have h2 := hub134 s hs2; omega) | (have h1 := hO65.off s hs; have h2 := hub29 s hs2; omega) | (have h1 := hO65.off s hs; have h2 := hub135 s hs2; omega) | (have h1 := hO65.off s hs; have h2 := hub54 s hs2; omega) | (have h1 := hO65.off s hs; have h2 := hub137 s hs2; omega) | (have h1 := hO65.off s hs; have h2 := hub112 s hs2; omega) | (have h1 := hO65.off s hs; have h2 := hubO s hs2; omega) | (have h1 := hO110.off s hs; have h2 := hub134 s hs2; omega) | (have h1 := hO110.off s hs; have h2 := hub29 s hs2; omega) | (have h1 := hO110.off s hs; have h2 := hub135 s hs2; omega) | (have h1 := hO110.off s hs; have h2 := hub54 s hs2; omega) | (have h1 := hO110.off s hs; have h2 := hub136 s hs2; omega) | (have h1 := hO110.off s hs; have h2 := hub67 s hs2; omega) | (have h1 := hO110.off s hs; have h2 := hubO s hs2; omega) | (have h1 := hOut.off s hs; have h2 := hub134 s hs2; omega) | (have h1 := hOut.off s hs; have h2 := hub29 s hs2; omega) | (have h1 := hOut.off s hs; have h2 := hub135 s hs2; omega) | (have h1 := hOut.off s hs; have h2 := hub54 s hs2; omega) | (have h1 := hOut.off s hs; have h2 := hub136 s hs2; omega) | (have h1 := hOut.off s hs; have h2 := hub67 s hs2; omega) | (have h1 := hOut.off s hs; have h2 := hub137 s hs2; omega) | (have h1 := hOut.off s hs; have h2 := hub112 s hs2; omega) | (have h1 := hub134 s hs; have h2 := hO52.off s hs2; omega) | (have h1 := hub29 s hs; have h2 := hO52.off s hs2; omega) | (have h1 := hub134 s hs; have h2 := hO65.off s hs2; omega) | (have h1 := hub29 s hs; have h2 := hO65.off s hs2; omega) | (have h1 := hub134 s hs; have h2 := hO110.off s hs2; omega) | (have h1 := hub29 s hs; have h2 := hO110.off s hs2; omega) | (have h1 := hub134 s hs; have h2 := hOut.off s hs2; omega) | (have h1 := hub29 s hs; have h2 := hOut.off s hs2; omega) | (have h1 := hub135 s hs; have h2 := hO28.off s hs2; omega) | (have h1 := hub54 s hs; have h2 := hO28.off s hs2; omega) | (have h1 := hub135 s hs; have h2 := hO65.off s hs2; omega) | (have h1 := hub54 s hs; have h2 := hO65.off s hs2; omega) | (have h1 := hub135 s hs; have h2 := hO110.off s hs2; omega) | (have h1 := hub54 s hs; have h2 := hO110.off s hs2; omega) | (have h1 := hub135 s hs; have h2 := hOut.off s hs2; omega) | (have h1 := hub54 s hs; have h2 := hOut.off s hs2; omega) | (have h1 := hub136 s hs; have h2 := hO28.off s hs2; omega) | (have h1 := hub67 s hs; have h2 := hO28.off s hs2; omega) | (have h1 := hub136 s hs; have h2 := hO52.off s hs2; omega) | (have h1 := hub67 s hs; have h2 := hO52.off s hs2; omega) | (have h1 := hub136 s hs; have h2 := hO110.off s hs2; omega) | (have h1 := hub67 s hs; have h2 := hO110.off s hs2; omega) | (have h1 := hub136 s hs; have h2 := hOut.off s hs2; omega) | (have h1 := hub67 s hs; have h2 := hOut.off s hs2; omega) | (have h1 := hub137 s hs; have h2 := hO28.off s hs2; omega) | (have h1 := hub112 s hs; have h2 := hO28.off s hs2; omega) | (have h1 := hub137 s hs; have h2 := hO52.off s hs2; omega) | (have h1 := hub112 s hs; have h2 := hO52.off s hs2; omega) | (have h1 := hub137 s hs; have h2 := hO65.off s hs2; omega) | (have h1 := hub112 s hs; have h2 := hO65.off s hs2; omega) | (have h1 := hub137 s hs; have h2 := hOut.off s hs2; omega) | (have h1 := hub112 s hs; have h2 := hOut.off s hs2; omega) | (have h1 := hubO s hs; have h2 := hO28.off s hs2; omega) | (have h1 := hubO s hs; have h2 := hO52.off s hs2; omega) | (have h1 := hubO s hs; have h2 := hO65.off s hs2; omega) | (have h1 := hubO s hs; have h2 := hO110.off s hs2; omega) | (simp [obl, Value.ownBlock] at hs; done) | (simp [obl, Value.ownBlock] at hs2; done) | exact dj_as hdj123 s hs hs2 | exact dj_as hdj124 s hs hs2 | exact dj_as hdj125 s hs hs2 | exact dj_as hdj126 s hs hs2 | exact dj_sw hdj123 s hs hs2 | exact dj_sw hdj124 s hs hs2 | exact dj_sw hdj125 s hs hs2 | exact dj_sw hdj126 s hs hs2), (fun s hs hs2 => by first | (have h1 := hO28.off s hs; have h2 := hub135 s hs2; omega) | (have h1 := hO28.off s hs; have h2 := hub54 s hs2; omega) | (have h1 := hO28.off s hs; have h2 := hub136 s hs2; omega) | (have h1 := hO28.off s hs; have h2 := hub67 s hs2; omega) | (have h1 := hO28.off s hs; have h2 := hub137 s hs2; omega) | (have h1 := hO28.off s hs; have h2 := hub112 s hs2; omega) | (have h1 := hO28.off s hs; have h2 := hubO s hs2; omega) | (have h1 := hO52.off s hs; have h2 := hub134 s hs2; omega) | (have h1 := hO52.off s hs; have h2 := hub29 s hs2; omega) | (have h1 := hO52.off s hs; have h2 := hub136 s hs2; omega) | (have h1 := hO52.off s hs; have h2 := hub67 s hs2; omega) | (have h1 := hO52.off s hs; have h2 := hub137 s hs2; omega) | (have h1 := hO52.off s hs; have h2 := hub112 s hs2; omega) | (have h1 := hO52.off s hs; have h2 := hubO s hs2; omega) | (have h1 := hO65.off s hs; have h2 := hub134 s hs2; omega) | (have h1 := hO65.off s hs; have h2 := hub29 s hs2; omega) | (have h1 := hO65.off s hs; have h2 := hub135 s hs2; omega) | (have h1 := hO65.off s hs; have h2 := hub54 s hs2; omega) | (have h1 := hO65.off s hs; have h2 := hub137 s hs2; omega) | (have h1 := hO65.off s hs; have h2 := hub112 s hs2; omega) | (have h1 := hO65.off s hs; have h2 := hubO s hs2; omega) | (have h1 := hO110.off s hs; have h2 := hub134 s hs2; omega) | (have h1 := hO110.off s hs; have h2 := hub29 s hs2; omega) | (have h1 := hO110.off s hs; have h2 := hub135 s hs2; omega) | (have h1 := hO110.off s hs; have h2 := hub54 s hs2; omega) | (have h1 := hO110.off s hs; have h2 := hub136 s hs2; omega) | (have h1 := hO110.off s hs; have h2 := hub67 s hs2; omega) | (have h1 := hO110.off s hs; have h2 := hubO s hs2; omega) | (have h1 := hOut.off s hs; have h2 := hub134 s hs2; omega) | (have h1 := hOut.off s hs; have h2 := hub29 s hs2; omega) | (have h1 := hOut.off s hs; have h2 := hub135 s hs2; omega) | (have h1 := hOut.off s hs; have h2 := hub54 s hs2; omega) | (have h1 := hOut.off s hs; have h2 := hub136 s hs2; omega) | (have h1 := hOut.off s hs; have h2 := hub67 s hs2; omega) | (have h1 := hOut.off s hs; have h2 := hub137 s hs2; omega) | (have h1 := hOut.off s hs; have h2 := hub112 s hs2; omega) | (have h1 := hub134 s hs; have h2 := hO52.off s hs2; omega) | (have h1 := hub29 s hs; have h2 := hO52.off s hs2; omega) | (have h1 := hub134 s hs; have h2 := hO65.off s hs2; omega) | (have h1 := hub29 s hs; have h2 := hO65.off s hs2; omega) | (have h1 := hub134 s hs; have h2 := hO110.off s hs2; omega) | (have h1 := hub29 s hs; have h2 := hO110.off s hs2; omega) | (have h1 := hub134 s hs; have h2 := hOut.off s hs2; omega) | (have h1 := hub29 s hs; have h2 := hOut.off s hs2; omega) | (have h1 := hub135 s hs; have h2 := hO28.off s hs2; omega) | (have h1 := hub54 s hs; have h2 := hO28.off s hs2; omega) | (have h1 := hub135 s hs; have h2 := hO65.off s hs2; omega) | (have h1 := hub54 s hs; have h2 := hO65.off s hs2; omega) | (have h1 := hub135 s hs; have h2 := hO110.off s hs2; omega) | (have h1 := hub54 s hs; have h2 := hO110.off s hs2; omega) | (have h1 := hub135 s hs; have h2 := hOut.off s hs2; omega) | (have h1 := hub54 s hs; have h2 := hOut.off s hs2; omega) | (have h1 := hub136 s hs; have h2 := hO28.off s hs2; omega) | (have h1 := hub67 s hs; have h2 := hO28.off s hs2; omega) | (have h1 := hub136 s hs; have h2 := hO52.off s hs2; omega) | (have h1 := hub67 s hs; have h2 := hO52.off s hs2; omega) | (have h1 := hub136 s hs; have h2 := hO110.off s hs2; omega) | (have h1 := hub67 s hs; have h2 := hO110.off s hs2; omega) | (have h1 := hub136 s hs; have h2 := hOut.off s hs2; omega) | (have h1 := hub67 s hs; have h2 := hOut.off s hs2; omega) | (have h1 := hub137 s hs; have h2 := hO28.off s hs2; omega) | (have h1 := hub112 s hs; have h2 := hO28.off s hs2; omega) | (have h1 := hub137 s hs; have h2 := hO52.off s hs2; omega) | (have h1 := hub112 s hs; have h2 := hO52.off s hs2; omega) | (have h1 := hub137 s hs; have h2 := hO65.off s hs2; omega) | (have h1 := hub112 s hs; have h2 := hO65.off s hs2; omega) | (have h1 := hub137 s hs; have h2 := hOut.off s hs2; omega) | (have h1 := hub112 s hs; have h2 := hOut.off s hs2; omega) | (have h1 := hubO s hs; have h2 := hO28.off s hs2; omega) | (have h1 := hubO s hs; have h2 := hO52.off s hs2; omega) | (have h1 := hubO s hs; have h2 := hO65.off s hs2; omega) | (have h1 := hubO s hs; have h2 := hO110.off s hs2; omega) | (simp [obl, Value.ownBlock] at hs; done) | (simp [obl, Value.ownBlock] at hs2; done) | exact dj_as hdj123 s hs hs2 | exact dj_as hdj124 s hs hs2 | exact dj_as hdj125 s hs hs2 | exact dj_as hdj126 s hs hs2 | exact dj_sw hdj123 s hs hs2 | exact dj_sw hdj124 s hs hs2 | exact dj_sw hdj125 s hs hs2 | exact dj_sw hdj126 s hs hs2), (fun s hs => by first | (have h1 := hO28.off s hs; omega) | (have h1 := hO52.off s hs; omega) | (have h1 := hO65.off s hs; omega) | (have h1 := hO110.off s hs; omega) | (have h1 := hOut.off s hs; omega) | (have h1 := hub134 s hs; omega) | (have h1 := hub135 s hs; omega) | (have h1 := hub136 s hs; omega) | (have h1 := hub137 s hs; omega) | (have h1 := hubO s hs; omega) | exact dj_asg hdj39 s hs | exact dj_asg hdj127 s hs | (simp [obl, Value.ownBlock] at hs; done) | (simp [obl, Value.ownBlock] at hs; omega))⟩
          · rintro ⟨m, AoB, coB⟩ J212 w201 ⟨hk12, hR0, hO28, hB35, hO52, hO65, hOut, hOutB, hc, hmono202, hmono203, hdj204, hdj205, hdj206, hdj207, hdj208⟩ K209 hK210
            have hsz214 := hc.size
            have hub215 := hO28.lt
            have hub216 := hO52.lt
            have hub217 := hO65.lt
            have hub218 := hOut.lt
            have hubOB := hOutB.lt
            have hol := others_le ⟨s21, a22⟩ ((hearV xs27 ⟨s21, a22⟩).take m); have htl : ((hearV xs27 ⟨s21, a22⟩).take m).length ≤ m := List.length_take_le _ _
            refine cw_seq fun K219 hK220 => ?_
            refine cw_seq fun K221 hK222 => ?_
            refine cw_region fun K223 hK224 => ?_
            refine rw_cons (op_pv (w0 rfl) rfl rfl (pv_move (v := (.int .i64 (m : Int))) rfl rfl) ?_)
            refine rw_cons (op_pv (w0 rfl) rfl rfl (pv_move (v := (.slice A50 (hearV xs27 ⟨s21, a22⟩).length c51)) rfl rfl) ?_)
            refine rw_cons (op_pv (w0 rfl) rfl rfl (pv_len Try.underlying23 rfl rfl) ?_)
            refine rw_cons (op_pv (w0 rfl) rfl rfl (pv_lss rfl rfl rfl) ?_)
            refine rw_nil (hK224 _ _ ?_)
            refine hK222 _ _ ?_
            refine cw_cond rfl (fun h225 => ?_) (fun h225 => ?_)
            · -- then
              replace h225 := of_decide_eq_true h225
              refine cw_skip ?_
              refine hK220 _ _ ?_
              refine cw_seq fun K226 hK227 => ?_
              refine cw_block ?_
              refine cw_seq fun K228 hK229 => ?_
              refine cw_drawn (fun u => Ch [] w201 u) (.free 0 (.free 1 (.free 2 (.free 3 (.free 4 (.free 5 (.free 6 (.free 7 (.done))))))))) (by kernel_rfl) (by kernel_rfl) (Ch.refl _ _).drew fun K233 hK234 => ?_
              obtain ⟨w230, hw_, hch231, hsz232⟩ : ∃ w1 : World, w1 = w201.drew ∧ Ch [] w201 w1 ∧ w1.heap.size = w201.heap.size := ⟨_, rfl, (Ch.refl _ _).drew, rfl⟩
              rw [← hw_]; clear hw_
              have hr235 : Ch [] w201 w230 := hch231.sub (fun s hs => by cases hs)
              have hR0_r := hR0
              have hO28_r := hO28
              have hB35_r := hB35
              have hO52_r := hO52
              have hO65_r := hO65
              have hOut_r := hOut
              have hOutB_r := hOutB
              have hsz236 := hch231.size
              replace hR0 := hR0.ch0 hch231
              replace hO28 := hO28.ch0 hch231
              replace hB35 := hB35.ch0 hch231
              replace hO52 := hO52.ch0 hch231
              replace hO65 := hO65.ch0 hch231
              replace hOut := hOut.ch0 hch231
              replace hOutB := hOutB.ch0 hch231
              replace hc := hc.step0 hch231
              refine tw_free rfl (w0 rfl) rfl rfl (fun u hu => (pv_move (v := (.slice A50 (hearV xs27 ⟨s21, a22⟩).length c51)) rfl rfl : PV _ _ _ _) u) ?_
              refine tw_free rfl (w0 rfl) rfl rfl (fun u hu => (pv_move (v := (.int .i64 (m : Int))) rfl rfl : PV _ _ _ _) u) ?_
              refine tw_free rfl (w0 rfl) rfl rfl (fun u hu => (pv_idx Try.underlying23 T39 rfl rfl rfl ((hO52.rs (fun _ => rfl)).some (k := m) (by omega)) (by omega) (by omega) : PV _ _ _ _) u) ?_
              refine tw_free rfl (w0 rfl) rfl rfl (fun u hu => (pv_fld F39_0 rfl rfl : PV _ _ _ _) u) ?_
              refine tw_free rfl (w0 rfl) rfl rfl (fun u hu => lv_load T3 rfl rfl (((hO52_r.ch0 hu).rs (fun _ => rfl)).cellE (k := m) (j := 0) (by omega) rfl)) ?_
              refine tw_free rfl (w0 rfl) rfl rfl (fun u hu => (pv_fld F39_0 rfl rfl : PV _ _ _ _) u) ?_
              refine tw_free rfl (w0 rfl) rfl rfl (fun u hu => lv_load T3 rfl rfl ((hB35_r.ch hu (by simp)).cellA (i := 0) rfl)) ?_
              refine tw_free rfl (w0 rfl) rfl rfl (fun u hu => (pv_neq rfl rfl rfl : PV _ _ _ _) u) ?_
              clear hB35_r
              clear hO28_r
              clear hO52_r
              clear hO65_r
              clear hOut_r
              clear hOutB_r
              clear hR0_r
              refine tw_done (hK234 _ _ ?_)
              refine hK229 _ _ ?_
              refine cw_cond rfl (fun h237 => ?_) (fun h237 => ?_)
              · -- then
                replace h237 := of_decide_eq_true h237
                refine cw_region fun K238 hK239 => ?_
                refine rw_cons (op_pv (w0 rfl) rfl rfl (pv_move (v := (.slice AoB (others ⟨s21, a22⟩ ((hearV xs27 ⟨s21, a22⟩).take m)).length coB)) rfl rfl) ?_)
                refine rw_cons (op_pv (w0 rfl) rfl rfl (pv_move (v := (.slice A50 (hearV xs27 ⟨s21, a22⟩).length c51)) rfl rfl) ?_)
                refine rw_cons (op_pv (w0 rfl) rfl rfl (pv_move (v := (.int .i64 (m : Int))) rfl rfl) ?_)
                refine rw_cons (op_pv (w0 rfl) rfl rfl (pv_idx Try.underlying23 T39 rfl rfl rfl ((hO52.rs (fun _ => rfl)).some (k := m) (by omega)) (by omega) (by omega)) ?_)
                refine rw_cons (op_lv (w0 rfl) rfl rfl (lv_loadN T39 rfl rfl rfl (fun j v hv => (hO52.rs (fun _ => rfl)).cellE (k := m) (by omega) hv)) ?_)
                refine rw_cons (op_bslice [(.agg #[(.int .i64 (el (hearV xs27 ⟨s21, a22⟩) m).s), (.int .i64 (el (hearV xs27 ⟨s21, a22⟩) m).a)])] Try.underlying23 T39 (w0 rfl) rfl rfl rfl rfl rfl (by simp [Value.cells]) (by decide) ?_)
                intro g241 w240 hg244 hg245 hK243 hch242
                have hO246 : Own encB 2 w240 w230.heap.size 39 (.slice (some ⟨g241, 0, none⟩) 1 1) ([⟨(el (hearV xs27 ⟨s21, a22⟩) m).s, (el (hearV xs27 ⟨s21, a22⟩) m).a⟩] : List Bt) := Blk.own (xs := ([⟨(el (hearV xs27 ⟨s21, a22⟩) m).s, (el (hearV xs27 ⟨s21, a22⟩) m).a⟩] : List Bt)) hK243 (by omega) rfl (by decide) rfl
                have hsz247 := hch242.size
                replace hR0 := hR0.ch0 hch242
                replace hO28 := hO28.ch0 hch242
                replace hB35 := hB35.ch0 hch242
                replace hO52 := hO52.ch0 hch242
                replace hO65 := hO65.ch0 hch242
                replace hOut := hOut.ch0 hch242
                replace hOutB := hOutB.ch0 hch242
                replace hc := hc.step0 hch242
                have hub248 := hO246.lt
                refine rw_cons (op_append Try.underlying23 T39 (fun _ => rfl) rfl (by decide) (fun _ => one_all rfl) (w0 rfl) rfl rfl rfl rfl rfl hOutB (hO246.rs (fun _ => rfl)) (by unfold maxLen; first | omega | (simp; omega)) (by first | omega | (simp; omega)) (by omega) ?_)
                rintro v249 w250 hO251 hch252 hs253
                have hl254 : ((others ⟨s21, a22⟩ ((hearV xs27 ⟨s21, a22⟩).take m)) ++ ([⟨(el (hearV xs27 ⟨s21, a22⟩) m).s, (el (hearV xs27 ⟨s21, a22⟩) m).a⟩] : List Bt)).length = (others ⟨s21, a22⟩ ((hearV xs27 ⟨s21, a22⟩).take m)).length + 1 := by first | (have hl0 := (hO246.rs (fun _ => rfl)).len; omega) | (have hl0 := (hO246.rs (fun _ => rfl)).len; simp only [List.length_append, List.length_cons, List.length_nil] at hl0 ⊢; omega) | simp | rfl
                clear hO246
                have hgl260 := hB35.lt
                have hsz261 := hch252.size
                replace hR0 := hR0.ch hch252 (hOutB.off.le (by omega))
                replace hO28 := hO28.ch hch252 (dj_as hdj204)
                replace hB35 := hB35.ch hch252 (fun hs => dj_asg hdj208 _ hs rfl)
                replace hO52 := hO52.ch hch252 (dj_as hdj205)
                replace hO65 := hO65.ch hch252 (dj_as hdj206)
                replace hOut := hOut.ch hch252 (dj_as hdj207)
                replace hc := (hOutB.off.le (by omega)).step hc hch252
                have hub262 := hO251.lt
                obtain ⟨A263, c264, hv265, hcap266, hcap267⟩ := hO251.form; subst hv265
                have hdj255 : ∀ s ∈ obl (.slice A263 ((others ⟨s21, a22⟩ ((hearV xs27 ⟨s21, a22⟩).take m)) ++ ([⟨(el (hearV xs27 ⟨s21, a22⟩) m).s, (el (hearV xs27 ⟨s21, a22⟩) m).a⟩] : List Bt)).length c264), s ∉ obl (.slice A25 xs27.length c26) := dj_new hs253 (dj_sw hdj204) (fun s hs => by have := hub215 s hs; omega)
                have hdj256 : ∀ s ∈ obl (.slice A263 ((others ⟨s21, a22⟩ ((hearV xs27 ⟨s21, a22⟩).take m)) ++ ([⟨(el (hearV xs27 ⟨s21, a22⟩) m).s, (el (hearV xs27 ⟨s21, a22⟩) m).a⟩] : List Bt)).length c264), s ∉ obl (.slice A50 (hearV xs27 ⟨s21, a22⟩).length c51) := dj_new hs253 (dj_sw hdj205) (fun s hs => by have := hub216 s hs; omega)
                have hdj257 : ∀ s ∈ obl (.slice A263 ((others ⟨s21, a22⟩ ((hearV xs27 ⟨s21, a22⟩).take m)) ++ ([⟨(el (hearV xs27 ⟨s21, a22⟩) m).s, (el (hearV xs27 ⟨s21, a22⟩) m).a⟩] : List Bt)).length c264), s ∉ obl (.slice A63 (hearV xs27 ⟨s21, a22⟩).length c64) := dj_new hs253 (dj_sw hdj206) (fun s hs => by have := hub217 s hs; omega)
                have hdj258 : ∀ s ∈ obl (.slice A263 ((others ⟨s21, a22⟩ ((hearV xs27 ⟨s21, a22⟩).take m)) ++ ([⟨(el (hearV xs27 ⟨s21, a22⟩) m).s, (el (hearV xs27 ⟨s21, a22⟩) m).a⟩] : List Bt)).length c264), s ∉ obl (.slice Ao (others ⟨s21, a22⟩ (xs27.take k)).length co) := dj_new hs253 (dj_sw hdj207) (fun s hs => by have := hub218 s hs; omega)
                have hdj259 : ∀ s ∈ obl (.slice A263 ((others ⟨s21, a22⟩ ((hearV xs27 ⟨s21, a22⟩).take m)) ++ ([⟨(el (hearV xs27 ⟨s21, a22⟩) m).s, (el (hearV xs27 ⟨s21, a22⟩) m).a⟩] : List Bt)).length c264), s ≠ g33 := dj_newg hs253 (dj_asg hdj208) (by omega)
                refine rw_cons (op_pv (w0 rfl) rfl rfl (pv_assign (v := (.slice A263 ((others ⟨s21, a22⟩ ((hearV xs27 ⟨s21, a22⟩).take m)) ++ ([⟨(el (hearV xs27 ⟨s21, a22⟩) m).s, (el (hearV xs27 ⟨s21, a22⟩) m).a⟩] : List Bt)).length c264)) rfl rfl) ?_)
                refine rw_nil (hK239 _ _ ?_)
                refine hK227 _ _ ?_
                refine cw_region fun K268 hK269 => ?_
                refine rw_cons (op_pv (w0 rfl) rfl rfl (pv_move (v := (.int .i64 (m : Int))) rfl rfl) ?_)
                refine rw_cons (op_pv (w0 rfl) rfl rfl (pv_add rfl rfl rfl (by omega) (by omega)) ?_)
                refine rw_cons (op_pv (w0 rfl) rfl rfl (pv_assign (v := (.int .i64 ((m : Int) + 1))) rfl rfl) ?_)
                refine rw_nil (hK269 _ _ ?_)
                have hEQ270 : ((others ⟨s21, a22⟩ ((hearV xs27 ⟨s21, a22⟩).take m)) ++ ([⟨(el (hearV xs27 ⟨s21, a22⟩) m).s, (el (hearV xs27 ⟨s21, a22⟩) m).a⟩] : List Bt)) = others ⟨s21, a22⟩ ((hearV xs27 ⟨s21, a22⟩).take (m + 1)) := by exact (others_yes (x := ⟨s21, a22⟩) (xs := (hearV xs27 ⟨s21, a22⟩)) (k := m) (by omega) (by show Bt.s (el _ _) ≠ s21; omega)).symm
                have hO271 := own_as hO251 hEQ270
                refine hK210 _ _ (m + 1, A263, c264) ⟨(sl_as hO251 hEQ270), (iv (by omega)), rfl, rfl, rfl, rfl, trivial⟩ ⟨?_, hR0, hO28, hB35, hO52, hO65, hOut, hO271, hc, (by omega), (by omega), (dj_sw hdj255), (dj_sw hdj256), (dj_sw hdj257), (dj_sw hdj258), (dj_asg hdj259)⟩ ?_
                · omega
                · (first | omega | (simp only []; omega))
              · -- else
                replace h237 := of_decide_eq_false h237
                refine cw_skip ?_
                refine hK227 _ _ ?_
                refine cw_region fun K272 hK273 => ?_
                refine rw_cons (op_pv (w0 rfl) rfl rfl (pv_move (v := (.int .i64 (m : Int))) rfl rfl) ?_)
                refine rw_cons (op_pv (w0 rfl) rfl rfl (pv_add rfl rfl rfl (by omega) (by omega)) ?_)
                refine rw_cons (op_pv (w0 rfl) rfl rfl (pv_assign (v := (.int .i64 ((m : Int) + 1))) rfl rfl) ?_)
                refine rw_nil (hK273 _ _ ?_)
                have hEQ274 : (others ⟨s21, a22⟩ ((hearV xs27 ⟨s21, a22⟩).take m)) = others ⟨s21, a22⟩ ((hearV xs27 ⟨s21, a22⟩).take (m + 1)) := by exact (others_no (x := ⟨s21, a22⟩) (xs := (hearV xs27 ⟨s21, a22⟩)) (k := m) (by omega) (by show Bt.s (el _ _) = s21; omega)).symm
                have hO275 := own_as hOutB hEQ274
                refine hK210 _ _ (m + 1, AoB, coB) ⟨(sl_as hOutB hEQ274), (iv (by omega)), rfl, rfl, rfl, rfl, trivial⟩ ⟨?_, hR0, hO28, hB35, hO52, hO65, hOut, hO275, hc, (by omega), (by omega), (dj_as hdj204), (dj_as hdj205), (dj_as hdj206), (dj_as hdj207), (dj_asg hdj208)⟩ ?_
                · omega
                · (first | omega | (simp only []; omega))
            · -- else
              replace h225 := of_decide_eq_false h225
              refine cw_exit ?_
              refine hK196 _ _ ?_
              refine cw_seq fun K276 hK277 => ?_
              refine cw_region fun K278 hK279 => ?_
              refine rw_cons (op_pv (w0 rfl) rfl rfl (pv_move (v := (.slice A50 (hearV xs27 ⟨s21, a22⟩).length c51)) rfl rfl) ?_)
              refine rw_cons (op_lv (w0 rfl) rfl rfl (lv_loadN T39 rfl rfl rfl (fun j v hv => hB35.cellA hv)) ?_)
              refine rw_cons (op_call (w0 rfl) rfl rfl (rc_call C35 rfl rfl) (BeatHear_i _ (hearV xs27 ⟨s21, a22⟩).length _ (hearV xs27 ⟨s21, a22⟩) s21 a22 _ (hO52.rs (fun _ => rfl)) (by omega)) ?_)
              rintro _ w280 ⟨A282, c283, rfl, hO284, hch281⟩
              have hsz285 := hch281.size
              replace hR0 := hR0.ch0 hch281
              replace hO28 := hO28.ch0 hch281
              replace hB35 := hB35.ch0 hch281
              replace hO52 := hO52.ch0 hch281
              replace hO65 := hO65.ch0 hch281
              replace hOut := hOut.ch0 hch281
              replace hOutB := hOutB.ch0 hch281
              replace hc := hc.step0 hch281
              have hub286 := hO284.lt
              have hcap287 : (hearV (hearV xs27 ⟨s21, a22⟩) ⟨s21, a22⟩).length ≤ c283 := by obtain ⟨_, _, hv, h1, _⟩ := hO284.form; injection hv with _ _ h3; omega
              have hnt288 := hearV_le (hearV xs27 ⟨s21, a22⟩) ⟨s21, a22⟩
              refine rw_cons (op_pv (w0 rfl) rfl rfl (pv_move (v := (.tuple #[(.slice A282 (hearV (hearV xs27 ⟨s21, a22⟩) ⟨s21, a22⟩).length c283), (.bool (dec (HearOK (hearV xs27 ⟨s21, a22⟩) ⟨s21, a22⟩)))])) rfl rfl) ?_)
              refine rw_cons (op_pv (w0 rfl) rfl rfl (pv_ext (v := (.slice A282 (hearV (hearV xs27 ⟨s21, a22⟩) ⟨s21, a22⟩).length c283)) rfl rfl rfl) ?_)
              refine rw_cons (op_pv (w0 rfl) rfl rfl (pv_ext (v := (.bool (dec (HearOK (hearV xs27 ⟨s21, a22⟩) ⟨s21, a22⟩)))) rfl rfl rfl) ?_)
              refine rw_cons (op_pv (w0 rfl) rfl rfl (pv_assign (v := (.slice A282 (hearV (hearV xs27 ⟨s21, a22⟩) ⟨s21, a22⟩).length c283)) rfl rfl) ?_)
              refine rw_cons (op_pv (w0 rfl) rfl rfl (pv_assign (v := (.bool (dec (HearOK (hearV xs27 ⟨s21, a22⟩) ⟨s21, a22⟩)))) rfl rfl) ?_)
              refine rw_nil (hK279 _ _ ?_)
              refine hK277 _ _ ?_
              refine cw_seq fun K289 hK290 => ?_
              refine cw_region fun K291 hK292 => ?_
              refine rw_cons (op_pv (w0 rfl) rfl rfl (pv_move (v := (.slice Ao (others ⟨s21, a22⟩ (xs27.take k)).length co)) rfl rfl) ?_)
              refine rw_cons (op_pv (w0 rfl) rfl rfl (pv_move (v := (.slice AoB (others ⟨s21, a22⟩ ((hearV xs27 ⟨s21, a22⟩).take m)).length coB)) rfl rfl) ?_)
              refine rw_cons (op_call (w0 rfl) rfl rfl (rc_call C37 rfl rfl) (sameBeats_ok _ _ _ _ _ _ (others ⟨s21, a22⟩ (xs27.take k)) (others ⟨s21, a22⟩ ((hearV xs27 ⟨s21, a22⟩).take m)) _ (hOut.rs (fun _ => rfl)) (hOutB.rs (fun _ => rfl)) (by omega)) ?_)
              rintro _ w293 ⟨rfl, hch294⟩
              have hsz295 := hch294.size
              replace hR0 := hR0.ch0 hch294
              replace hO28 := hO28.ch0 hch294
              replace hB35 := hB35.ch0 hch294
              replace hO52 := hO52.ch0 hch294
              replace hO65 := hO65.ch0 hch294
              replace hOut := hOut.ch0 hch294
              replace hOutB := hOutB.ch0 hch294
              replace hO284 := hO284.ch0 hch294
              replace hc := hc.step0 hch294
              refine rw_cons (op_pv (w0 rfl) rfl rfl (pv_move (v := (.bool (dec ((others ⟨s21, a22⟩ (xs27.take k)) = (others ⟨s21, a22⟩ ((hearV xs27 ⟨s21, a22⟩).take m)))))) rfl rfl) ?_)
              refine rw_split 109 rfl (fun hb296 => ?_) (fun hb296 => ?_)
              · -- yes
                replace hb296 := dec_t hb296
                refine rw_cons (op_pv (w1y rfl rfl rfl rfl) rfl rfl (pv_move (v := (.bool (dec (HearOK (hearV xs27 ⟨s21, a22⟩) ⟨s21, a22⟩)))) rfl rfl) ?_)
                refine rw_cons (op_pv (w0 rfl) rfl rfl (pv_pickT (v := (.bool (dec (HearOK (hearV xs27 ⟨s21, a22⟩) ⟨s21, a22⟩)))) rfl rfl rfl) ?_)
                refine rw_cons (op_pv (w0 rfl) rfl rfl (pv_move (v := (.bool (dec (HearOK (hearV xs27 ⟨s21, a22⟩) ⟨s21, a22⟩)))) rfl rfl) ?_)
                refine rw_split 112 rfl (fun hb297 => ?_) (fun hb297 => ?_)
                · -- yes
                  replace hb297 := dec_t hb297
                  refine rw_cons (op_pv (w1y rfl rfl rfl rfl) rfl rfl (pv_move (v := (.slice A282 (hearV (hearV xs27 ⟨s21, a22⟩) ⟨s21, a22⟩).length c283)) rfl rfl) ?_)
                  refine rw_cons (op_pv (w1y rfl rfl rfl rfl) rfl rfl (pv_move (v := (.slice A50 (hearV xs27 ⟨s21, a22⟩).length c51)) rfl rfl) ?_)
                  refine rw_cons (op_call (w1y rfl rfl rfl rfl) rfl rfl (rc_call C37 rfl rfl) (sameBeats_ok _ _ _ _ _ _ (hearV (hearV xs27 ⟨s21, a22⟩) ⟨s21, a22⟩) (hearV xs27 ⟨s21, a22⟩) _ (hO284.rs (fun _ => rfl)) (hO52.rs (fun _ => rfl)) (by omega)) ?_)
                  rintro _ w298 ⟨rfl, hch299⟩
                  have hsz300 := hch299.size
                  replace hR0 := hR0.ch0 hch299
                  replace hO28 := hO28.ch0 hch299
                  replace hB35 := hB35.ch0 hch299
                  replace hO52 := hO52.ch0 hch299
                  replace hO65 := hO65.ch0 hch299
                  replace hOut := hOut.ch0 hch299
                  replace hOutB := hOutB.ch0 hch299
                  replace hO284 := hO284.ch0 hch299
                  replace hc := hc.step0 hch299
                  refine rw_cons (op_pv (w0 rfl) rfl rfl (pv_pickT (v := (.bool (dec ((hearV (hearV xs27 ⟨s21, a22⟩) ⟨s21, a22⟩) = (hearV xs27 ⟨s21, a22⟩))))) rfl rfl rfl) ?_)
                  refine rw_cons (op_pv (w0 rfl) rfl rfl (pv_assign (v := (.bool (dec ((hearV (hearV xs27 ⟨s21, a22⟩) ⟨s21, a22⟩) = (hearV xs27 ⟨s21, a22⟩))))) rfl rfl) ?_)
                  refine rw_nil (hK292 _ _ ?_)
                  refine hK290 _ _ ?_
                  refine cw_ret ?_
                  refine fin1 rfl ?_
                  have q1 : others ⟨s21, a22⟩ (xs27.take k) = others ⟨s21, a22⟩ ((hearV xs27 ⟨s21, a22⟩).take m) := by rw [el_take_all xs27 k (by omega), el_take_all (hearV xs27 ⟨s21, a22⟩) m (by omega), hev]; exact (hear_others _ _).symm
                  have q2 := hear_ok_again hok
                  have q3 : hearV (hearV xs27 ⟨s21, a22⟩) ⟨s21, a22⟩ = hearV xs27 ⟨s21, a22⟩ := by rw [hev, hearV_yes q2, hear_again]
                  rw [← hev] at q2
                  first
                    | exact ⟨rfl, hc⟩
                    | exact absurd q1 (by assumption)
                    | exact absurd q2 (by assumption)
                    | exact ⟨congrArg Value.bool (dec_yes q3), hc⟩
                    | exact ⟨congrArg Value.bool (dec_yes q1), hc⟩
                · -- no
                  replace hb297 := dec_f hb297
                  refine rw_cons (op_pass (w1n1 rfl rfl rfl rfl) rfl rfl ?_)
                  refine rw_cons (op_pass (w1n1 rfl rfl rfl rfl) rfl rfl ?_)
                  refine rw_cons (op_pass (w1n1 rfl rfl rfl rfl) rfl rfl ?_)
                  refine rw_cons (op_pv (w0 rfl) rfl rfl (pv_pickF (v := (.bool false)) rfl rfl rfl) ?_)
                  refine rw_cons (op_pv (w0 rfl) rfl rfl (pv_assign (v := (.bool false)) rfl rfl) ?_)
                  refine rw_nil (hK292 _ _ ?_)
                  refine hK290 _ _ ?_
                  refine cw_ret ?_
                  refine fin1 rfl ?_
                  have q1 : others ⟨s21, a22⟩ (xs27.take k) = others ⟨s21, a22⟩ ((hearV xs27 ⟨s21, a22⟩).take m) := by rw [el_take_all xs27 k (by omega), el_take_all (hearV xs27 ⟨s21, a22⟩) m (by omega), hev]; exact (hear_others _ _).symm
                  have q2 := hear_ok_again hok
                  have q3 : hearV (hearV xs27 ⟨s21, a22⟩) ⟨s21, a22⟩ = hearV xs27 ⟨s21, a22⟩ := by rw [hev, hearV_yes q2, hear_again]
                  rw [← hev] at q2
                  first
                    | exact ⟨rfl, hc⟩
                    | exact absurd q1 (by assumption)
                    | exact absurd q2 (by assumption)
                    | exact ⟨congrArg Value.bool (dec_yes q3), hc⟩
                    | exact ⟨congrArg Value.bool (dec_yes q1), hc⟩
              · -- no
                replace hb296 := dec_f hb296
                refine rw_cons (op_pass (w1n1 rfl rfl rfl rfl) rfl rfl ?_)
                refine rw_cons (op_pv (w0 rfl) rfl rfl (pv_pickF (v := (.bool false)) rfl rfl rfl) ?_)
                refine rw_cons (op_pv (w0 rfl) rfl rfl (pv_move (v := (.bool false)) rfl rfl) ?_)
                refine rw_cons (op_pass (w1n1 rfl rfl rfl rfl) rfl rfl ?_)
                refine rw_cons (op_pass (w1n1 rfl rfl rfl rfl) rfl rfl ?_)
                refine rw_cons (op_pass (w1n1 rfl rfl rfl rfl) rfl rfl ?_)
                refine rw_cons (op_pv (w0 rfl) rfl rfl (pv_pickF (v := (.bool false)) rfl rfl rfl) ?_)
                refine rw_cons (op_pv (w0 rfl) rfl rfl (pv_assign (v := (.bool false)) rfl rfl) ?_)
                refine rw_nil (hK292 _ _ ?_)
                refine hK290 _ _ ?_
                refine cw_ret ?_
                refine fin1 rfl ?_
                have q1 : others ⟨s21, a22⟩ (xs27.take k) = others ⟨s21, a22⟩ ((hearV xs27 ⟨s21, a22⟩).take m) := by rw [el_take_all xs27 k (by omega), el_take_all (hearV xs27 ⟨s21, a22⟩) m (by omega), hev]; exact (hear_others _ _).symm
                have q2 := hear_ok_again hok
                have q3 : hearV (hearV xs27 ⟨s21, a22⟩) ⟨s21, a22⟩ = hearV xs27 ⟨s21, a22⟩ := by rw [hev, hearV_yes q2, hear_again]
                rw [← hev] at q2
                first
                  | exact ⟨rfl, hc⟩
                  | exact absurd q1 (by assumption)
                  | exact absurd q2 (by assumption)
                  | exact ⟨congrArg Value.bool (dec_yes q3), hc⟩
                  | exact ⟨congrArg Value.bool (dec_yes q1), hc⟩
end Go.Proofs.Ytnkjljjcionfiaa

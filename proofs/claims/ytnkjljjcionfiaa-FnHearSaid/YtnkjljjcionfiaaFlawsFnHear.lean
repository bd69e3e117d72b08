/-
  The walk of laws.FnHear, written by program: each line names the law of one operation. Conditions: those of the theorem.
-/
import Derived.Test.YtnkjljjcionfiaaProg
import Derived.Test.YtnkjljjcionfiaaBeats2
import Derived.Test.YtnkjljjcionfiaaFspecDrawBeatHear
import Derived.Test.YtnkjljjcionfiaaFimplBeatHear
import Derived.Test.YtnkjljjcionfiaaFspecBeatHear
import Derived.Test.YtnkjljjcionfiaaFlawssameBeats
import Derived.Test.YtnkjljjcionfiaaFimplBeatsValid
import Derived.KernelRfl
namespace Go.Proofs.Ytnkjljjcionfiaa
open Go Go.RowKit
set_option linter.unusedVariables false
set_option linter.unusedSimpArgs false
namespace FnHear_okF
theorem T3 : TI Try.prog 3 false (.int .i64 0) 1 8 := TI.mk' Try.underlying3 rfl (by kernel_rfl)
theorem T39 : TI Try.prog 39 true (.agg #[.int .i64 0, .int .i64 0]) 2 16 := TI.mk' Try.underlying39 rfl (by kernel_rfl)
theorem F39_0 : FldOK Try.prog 39 0 0 := ⟨_, _, 0, Try.underlying39, rfl, rfl, by kernel_rfl⟩
theorem F39_1 : FldOK Try.prog 39 1 1 := ⟨_, _, 0, Try.underlying39, rfl, rfl, by kernel_rfl⟩
theorem C17 : Callable Try.prog 17 := ⟨_, Try.func17, by kernel_rfl, by kernel_rfl⟩
theorem C34 : Callable Try.prog 34 := ⟨_, Try.func34, by kernel_rfl, by kernel_rfl⟩
theorem C35 : Callable Try.prog 35 := ⟨_, Try.func35, by kernel_rfl, by kernel_rfl⟩
theorem C36 : Callable Try.prog 36 := ⟨_, Try.func36, by kernel_rfl, by kernel_rfl⟩
theorem C37 : Callable Try.prog 37 := ⟨_, Try.func37, by kernel_rfl, by kernel_rfl⟩
end FnHear_okF
open FnHear_okF in
set_option maxHeartbeats 4000000 in
theorem FnHear_ok (A0 : Option Addr) (n0 c0 : Nat) (xs0 : List UInt8) (w : World) (hR0 : RS encU 1 w w.heap.size A0 n0 xs0) (hn0 : n0 ≤ c0) :
    Fn Try.prog 11 [(.slice A0 n0 c0)] w fun v w' => v = .bool true ∧ Ch [] w w' := by
  have hlen0 := hR0.len
  refine fn_of (n := 100) Try.func11 rfl rfl rfl rfl ?_
  have hc : Ch [] w w := Ch.refl _ _
  refine cw_seq fun K1 hK2 => ?_
  refine cw_region fun K3 hK4 => ?_
  refine rw_cons (op_pv (w0 rfl) rfl rfl (pv_assign (v := (.bool false)) rfl rfl) ?_)
  refine rw_nil (hK4 _ _ ?_)
  refine hK2 _ _ ?_
  refine cw_seq fun K5 hK6 => ?_
  refine cw_seq fun K7 hK8 => ?_
  refine cw_region fun K9 hK10 => ?_
  refine rw_cons (op_pv (w0 rfl) rfl rfl (pv_move (v := (.slice A0 n0 c0)) rfl rfl) ?_)
  refine rw_cons (op_pv (w0 rfl) rfl rfl (pv_len Try.underlying22 rfl rfl) ?_)
  refine rw_cons (op_pv (w0 rfl) rfl rfl (pv_gtr rfl rfl rfl) ?_)
  refine rw_nil (hK10 _ _ ?_)
  refine hK8 _ _ ?_
  refine cw_cond rfl (fun h11 => ?_) (fun h11 => ?_)
  · -- then
    replace h11 := of_decide_eq_true h11
    refine cw_seq fun K12 hK13 => ?_
    refine cw_region fun K14 hK15 => ?_
    refine rw_cons (op_pv (w0 rfl) rfl rfl (pv_assign (v := (.bool true)) rfl rfl) ?_)
    refine rw_nil (hK15 _ _ ?_)
    refine hK13 _ _ ?_
    refine cw_ret ?_
    refine fin1 rfl ?_
    exact ⟨rfl, hc⟩
  · -- else
    replace h11 := of_decide_eq_false h11
    refine cw_skip ?_
    refine hK6 _ _ ?_
    refine cw_seq fun K16 hK17 => ?_
    refine cw_region fun K18 hK19 => ?_
    refine rw_cons (op_pv (w0 rfl) rfl rfl (pv_move (v := (.slice A0 n0 c0)) rfl rfl) ?_)
    refine rw_cons (op_call (w0 rfl) rfl rfl (rc_call C34 rfl rfl) (DrawBeatHear_ok _ _ _ _ _ (hR0.more (by omega)) (by omega)) ?_)
    rintro _ w20 ⟨A25, c26, xs27, s21, a22, rfl, hO28, hx23, hch24⟩
    have hsz30 := hch24.size
    replace hR0 := hR0.ch0 hch24
    replace hc := hc.step0 hch24
    have hub29 := hO28.lt
    have hcap31 : xs27.length ≤ c26 := by obtain ⟨_, _, hv, h1, _⟩ := hO28.form; injection hv with _ _ h3; omega
    refine rw_cons (op_pv (w0 rfl) rfl rfl (pv_move (v := (.tuple #[(.slice A25 xs27.length c26), (.agg #[(.int .i64 s21), (.int .i64 a22)])])) rfl rfl) ?_)
    refine rw_cons (op_pv (w0 rfl) rfl rfl (pv_ext (v := (.slice A25 xs27.length c26)) rfl rfl rfl) ?_)
    refine rw_cons (op_pv (w0 rfl) rfl rfl (pv_ext (v := (.agg #[(.int .i64 s21), (.int .i64 a22)])) rfl rfl rfl) ?_)
    refine rw_cons (op_alloc T39 (w0 rfl) rfl rfl rfl ?_)
    rintro g33 w32 hg36 hg37 hB35 hch34
    have hsz38 := hch34.size
    replace hR0 := hR0.ch0 hch34
    replace hO28 := hO28.ch0 hch34
    replace hc := hc.step0 hch34
    replace hB35 : Blk w32 g33 39 [(.int .i64 0), (.int .i64 0)] := hB35
    have hdj39 : ∀ s ∈ obl (.slice A25 xs27.length c26), s ≠ g33 := fun s hs => by have := hub29 s hs; omega
    refine rw_cons (op_pv (w0 rfl) rfl rfl (pv_assign (v := (.slice A25 xs27.length c26)) rfl rfl) ?_)
    refine rw_cons (op_store_blk T39 hB35 (w0 rfl) rfl rfl rfl rfl rfl (one_all rfl) (Nat.le_of_ble_eq_true rfl) ?_)
    rintro w40 hB42 hch41
    have hsz43 := hch41.size
    replace hR0 := hR0.ch hch41 (off1 (by omega))
    replace hO28 := hO28.ch hch41 (fun s hs => by have := dj_asg hdj39 s hs; simpa using this)
    replace hc := (off1 (by omega)).step hc hch41
    replace hB35 : Blk w40 g33 39 [(.int .i64 s21), (.int .i64 a22)] := hB42
    clear hB42
    refine rw_nil (hK19 _ _ ?_)
    refine hK17 _ _ ?_
    refine cw_seq fun K44 hK45 => ?_
    refine cw_region fun K46 hK47 => ?_
    refine rw_cons (op_pv (w0 rfl) rfl rfl (pv_move (v := (.slice A25 xs27.length c26)) rfl rfl) ?_)
    refine rw_cons (op_lv (w0 rfl) rfl rfl (lv_loadN T39 rfl rfl rfl (fun j v hv => hB35.cellA hv)) ?_)
    refine rw_cons (op_call (w0 rfl) rfl rfl (rc_call C35 rfl rfl) (BeatHear_i _ xs27.length _ xs27 s21 a22 _ (hO28.rs (fun _ => rfl)) (by omega)) ?_)
    rintro _ w48 ⟨A50, c51, rfl, hO52, hch49⟩
    have hsz53 := hch49.size
    replace hR0 := hR0.ch0 hch49
    replace hO28 := hO28.ch0 hch49
    replace hB35 := hB35.ch0 hch49
    replace hc := hc.step0 hch49
    have hub54 := hO52.lt
    have hcap55 : (hearV xs27 ⟨s21, a22⟩).length ≤ c51 := by obtain ⟨_, _, hv, h1, _⟩ := hO52.form; injection hv with _ _ h3; omega
    have hnt56 := hearV_le xs27 ⟨s21, a22⟩
    refine rw_cons (op_pv (w0 rfl) rfl rfl (pv_move (v := (.tuple #[(.slice A50 (hearV xs27 ⟨s21, a22⟩).length c51), (.bool (dec (HearOK xs27 ⟨s21, a22⟩)))])) rfl rfl) ?_)
    refine rw_cons (op_pv (w0 rfl) rfl rfl (pv_ext (v := (.slice A50 (hearV xs27 ⟨s21, a22⟩).length c51)) rfl rfl rfl) ?_)
    refine rw_cons (op_pv (w0 rfl) rfl rfl (pv_ext (v := (.bool (dec (HearOK xs27 ⟨s21, a22⟩)))) rfl rfl rfl) ?_)
    refine rw_cons (op_pv (w0 rfl) rfl rfl (pv_assign (v := (.slice A50 (hearV xs27 ⟨s21, a22⟩).length c51)) rfl rfl) ?_)
    refine rw_cons (op_pv (w0 rfl) rfl rfl (pv_assign (v := (.bool (dec (HearOK xs27 ⟨s21, a22⟩)))) rfl rfl) ?_)
    refine rw_nil (hK47 _ _ ?_)
    refine hK45 _ _ ?_
    refine cw_seq fun K57 hK58 => ?_
    refine cw_region fun K59 hK60 => ?_
    refine rw_cons (op_pv (w0 rfl) rfl rfl (pv_move (v := (.slice A25 xs27.length c26)) rfl rfl) ?_)
    refine rw_cons (op_lv (w0 rfl) rfl rfl (lv_loadN T39 rfl rfl rfl (fun j v hv => hB35.cellA hv)) ?_)
    refine rw_cons (op_call (w0 rfl) rfl rfl (rc_call C36 rfl rfl) (BeatHear_s _ xs27.length _ xs27 s21 a22 _ (hO28.rs (fun _ => rfl)) (by omega)) ?_)
    rintro _ w61 ⟨A63, c64, rfl, hO65, hch62⟩
    have hsz66 := hch62.size
    replace hR0 := hR0.ch0 hch62
    replace hO28 := hO28.ch0 hch62
    replace hB35 := hB35.ch0 hch62
    replace hO52 := hO52.ch0 hch62
    replace hc := hc.step0 hch62
    have hub67 := hO65.lt
    have hcap68 : (hearV xs27 ⟨s21, a22⟩).length ≤ c64 := by obtain ⟨_, _, hv, h1, _⟩ := hO65.form; injection hv with _ _ h3; omega
    have hnt69 := hearV_le xs27 ⟨s21, a22⟩
    refine rw_cons (op_pv (w0 rfl) rfl rfl (pv_move (v := (.tuple #[(.slice A63 (hearV xs27 ⟨s21, a22⟩).length c64), (.bool (dec (HearOK xs27 ⟨s21, a22⟩)))])) rfl rfl) ?_)
    refine rw_cons (op_pv (w0 rfl) rfl rfl (pv_ext (v := (.slice A63 (hearV xs27 ⟨s21, a22⟩).length c64)) rfl rfl rfl) ?_)
    refine rw_cons (op_pv (w0 rfl) rfl rfl (pv_ext (v := (.bool (dec (HearOK xs27 ⟨s21, a22⟩)))) rfl rfl rfl) ?_)
    refine rw_cons (op_pv (w0 rfl) rfl rfl (pv_assign (v := (.slice A63 (hearV xs27 ⟨s21, a22⟩).length c64)) rfl rfl) ?_)
    refine rw_cons (op_pv (w0 rfl) rfl rfl (pv_assign (v := (.bool (dec (HearOK xs27 ⟨s21, a22⟩)))) rfl rfl) ?_)
    refine rw_nil (hK60 _ _ ?_)
    refine hK58 _ _ ?_
    refine cw_seq fun K70 hK71 => ?_
    refine cw_seq fun K72 hK73 => ?_
    refine cw_region fun K74 hK75 => ?_
    refine rw_cons (op_pv (w0 rfl) rfl rfl (pv_move (v := (.bool (dec (HearOK xs27 ⟨s21, a22⟩)))) rfl rfl) ?_)
    refine rw_cons (op_pv (w0 rfl) rfl rfl (pv_move (v := (.bool (dec (HearOK xs27 ⟨s21, a22⟩)))) rfl rfl) ?_)
    refine rw_cons (op_pv (w0 rfl) rfl rfl (pv_neBs Try.underlying4 rfl rfl rfl) ?_)
    refine rw_cons (op_pv (w0 rfl) rfl rfl (pv_move (v := (.bool false)) rfl rfl) ?_)
    refine rw_cons (op_pv (w1y rfl rfl rfl rfl) rfl rfl (pv_move (v := (.slice A50 (hearV xs27 ⟨s21, a22⟩).length c51)) rfl rfl) ?_)
    refine rw_cons (op_pv (w1y rfl rfl rfl rfl) rfl rfl (pv_move (v := (.slice A63 (hearV xs27 ⟨s21, a22⟩).length c64)) rfl rfl) ?_)
    refine rw_cons (op_call (w1y rfl rfl rfl rfl) rfl rfl (rc_call C37 rfl rfl) (sameBeats_same _ _ _ _ _ _ (hearV xs27 ⟨s21, a22⟩) _ (hO52.rs (fun _ => rfl)) (hO65.rs (fun _ => rfl)) (by omega)) ?_)
    rintro _ w76 ⟨rfl, hch77⟩
    have hsz78 := hch77.size
    replace hR0 := hR0.ch0 hch77
    replace hO28 := hO28.ch0 hch77
    replace hB35 := hB35.ch0 hch77
    replace hO52 := hO52.ch0 hch77
    replace hO65 := hO65.ch0 hch77
    replace hc := hc.step0 hch77
    refine rw_cons (op_pv (w1y rfl rfl rfl rfl) rfl rfl (pv_not rfl rfl) ?_)
    refine rw_cons (op_pv (w0 rfl) rfl rfl (pv_pickF (v := (.bool (!true))) rfl rfl rfl) ?_)
    refine rw_cons (op_pv (w0 rfl) rfl rfl (pv_move (v := (.bool (!true))) rfl rfl) ?_)
    refine rw_cons (op_pv (w1y rfl rfl rfl rfl) rfl rfl (pv_move (v := (.bool (dec (HearOK xs27 ⟨s21, a22⟩)))) rfl rfl) ?_)
    refine rw_cons (op_pv (w1y rfl rfl rfl rfl) rfl rfl (pv_not rfl rfl) ?_)
    refine rw_cons (op_pv (w0 rfl) rfl rfl (pv_pickF (v := (.bool (!(dec (HearOK xs27 ⟨s21, a22⟩))))) rfl rfl rfl) ?_)
    refine rw_nil (hK75 _ _ ?_)
    refine hK73 _ _ ?_
    refine cw_cond rfl (fun h79 => ?_) (fun h79 => ?_)
    · -- then
      replace h79 := not_t h79
      replace h79 := dec_f h79
      refine cw_seq fun K80 hK81 => ?_
      refine cw_region fun K82 hK83 => ?_
      refine rw_cons (op_pv (w0 rfl) rfl rfl (pv_move (v := (.bool (dec (HearOK xs27 ⟨s21, a22⟩)))) rfl rfl) ?_)
      refine rw_cons (op_pv (w0 rfl) rfl rfl (pv_move (v := (.bool (dec (HearOK xs27 ⟨s21, a22⟩)))) rfl rfl) ?_)
      refine rw_cons (op_pv (w0 rfl) rfl rfl (pv_eqBs Try.underlying4 rfl rfl rfl) ?_)
      refine rw_cons (op_pv (w0 rfl) rfl rfl (pv_move (v := (.bool true)) rfl rfl) ?_)
      refine rw_cons (op_pv (w1y rfl rfl rfl rfl) rfl rfl (pv_move (v := (.slice A50 (hearV xs27 ⟨s21, a22⟩).length c51)) rfl rfl) ?_)
      refine rw_cons (op_pv (w1y rfl rfl rfl rfl) rfl rfl (pv_move (v := (.slice A63 (hearV xs27 ⟨s21, a22⟩).length c64)) rfl rfl) ?_)
      refine rw_cons (op_call (w1y rfl rfl rfl rfl) rfl rfl (rc_call C37 rfl rfl) (sameBeats_same _ _ _ _ _ _ (hearV xs27 ⟨s21, a22⟩) _ (hO52.rs (fun _ => rfl)) (hO65.rs (fun _ => rfl)) (by omega)) ?_)
      rintro _ w84 ⟨rfl, hch85⟩
      have hsz86 := hch85.size
      replace hR0 := hR0.ch0 hch85
      replace hO28 := hO28.ch0 hch85
      replace hB35 := hB35.ch0 hch85
      replace hO52 := hO52.ch0 hch85
      replace hO65 := hO65.ch0 hch85
      replace hc := hc.step0 hch85
      refine rw_cons (op_pv (w0 rfl) rfl rfl (pv_pickT (v := (.bool true)) rfl rfl rfl) ?_)
      refine rw_cons (op_pv (w0 rfl) rfl rfl (pv_assign (v := (.bool true)) rfl rfl) ?_)
      refine rw_nil (hK83 _ _ ?_)
      refine hK81 _ _ ?_
      refine cw_ret ?_
      refine fin1 rfl ?_
      exact ⟨rfl, hc⟩
    · -- else
      replace h79 := not_f h79
      replace h79 := dec_t h79
      refine cw_skip ?_
      refine hK71 _ _ ?_
      refine cw_seq fun K87 hK88 => ?_
      have hok : HearOK xs27 ⟨s21, a22⟩ := by assumption
      have hev := hearV_yes hok
      have hx8 := hok.1.1
      have hhl := hear_len xs27 ⟨s21, a22⟩
      refine cw_region fun K89 hK90 => ?_
      refine rw_cons (op_pv (w0 rfl) rfl rfl (pv_assign (v := (.int .i64 0)) rfl rfl) ?_)
      refine rw_nil (hK90 _ _ ?_)
      refine hK88 _ _ ?_
      refine cw_seq fun K91 hK92 => ?_
      refine cw_seq fun K93 hK94 => ?_
      refine cw_region fun K95 hK96 => ?_
      refine rw_cons (op_pv (w0 rfl) rfl rfl (pv_assign (v := (.int .i64 0)) rfl rfl) ?_)
      refine rw_nil (hK96 _ _ ?_)
      refine hK94 _ _ ?_
      refine cw_block ?_
      refine cw_loop (σ := Nat) (fun k => [(9, (.int .i64 (oldL ⟨s21, a22⟩ (xs27.take k)))), (10, (.int .i64 (k : Int))), (2, (.bool false)), (3, (.slice A25 xs27.length c26)), (4, (.pointer (some (⟨g33, 0, none⟩)))), (5, (.slice A50 (hearV xs27 ⟨s21, a22⟩).length c51))]) (fun k W => (k ≤ xs27.length) ∧ RS encU 1 W w.heap.size A0 n0 xs0 ∧ Own encB 2 W w.heap.size 39 (.slice A25 xs27.length c26) xs27 ∧ Blk W g33 39 [(.int .i64 s21), (.int .i64 a22)] ∧ Own encB 2 W w40.heap.size 39 (.slice A50 (hearV xs27 ⟨s21, a22⟩).length c51) (hearV xs27 ⟨s21, a22⟩) ∧ Own encB 2 W w48.heap.size 39 (.slice A63 (hearV xs27 ⟨s21, a22⟩).length c64) (hearV xs27 ⟨s21, a22⟩) ∧ Ch [] w W ∧ w40.heap.size ≤ W.heap.size ∧ w48.heap.size ≤ W.heap.size) (fun k => xs27.length - k) 0 ?_ ?_ ?_
      · exact ⟨rfl, rfl, rfl, rfl, rfl, rfl, trivial⟩
      · refine ⟨Nat.zero_le _, hR0, hO28, hB35, hO52, hO65, hc, (by omega), (by omega)⟩
      · rintro k J103 w97 ⟨hk, hR0, hO28, hB35, hO52, hO65, hc, hmono98, hmono99⟩ K100 hK101
        have hsz105 := hc.size
        have hub106 := hO28.lt
        have hub107 := hO52.lt
        have hub108 := hO65.lt
        refine cw_seq fun K109 hK110 => ?_
        refine cw_seq fun K111 hK112 => ?_
        refine cw_region fun K113 hK114 => ?_
        refine rw_cons (op_pv (w0 rfl) rfl rfl (pv_move (v := (.int .i64 (k : Int))) rfl rfl) ?_)
        refine rw_cons (op_pv (w0 rfl) rfl rfl (pv_move (v := (.slice A25 xs27.length c26)) rfl rfl) ?_)
        refine rw_cons (op_pv (w0 rfl) rfl rfl (pv_len Try.underlying23 rfl rfl) ?_)
        refine rw_cons (op_pv (w0 rfl) rfl rfl (pv_lss rfl rfl rfl) ?_)
        refine rw_nil (hK114 _ _ ?_)
        refine hK112 _ _ ?_
        refine cw_cond rfl (fun h115 => ?_) (fun h115 => ?_)
        · -- then
          replace h115 := of_decide_eq_true h115
          refine cw_skip ?_
          refine hK110 _ _ ?_
          refine cw_seq fun K116 hK117 => ?_
          refine cw_block ?_
          refine cw_seq fun K118 hK119 => ?_
          refine cw_drawn (fun u => Ch [] w97 u) (.free 0 (.free 1 (.free 2 (.free 3 (.free 4 (.free 5 (.free 6 (.free 7 (.done))))))))) (by kernel_rfl) (by kernel_rfl) (Ch.refl _ _).drew fun K123 hK124 => ?_
          obtain ⟨w120, hw_, hch121, hsz122⟩ : ∃ w1 : World, w1 = w97.drew ∧ Ch [] w97 w1 ∧ w1.heap.size = w97.heap.size := ⟨_, rfl, (Ch.refl _ _).drew, rfl⟩
          rw [← hw_]; clear hw_
          have hr125 : Ch [] w97 w120 := hch121.sub (fun s hs => by cases hs)
          have hR0_r := hR0
          have hO28_r := hO28
          have hB35_r := hB35
          have hO52_r := hO52
          have hO65_r := hO65
          have hsz126 := hch121.size
          replace hR0 := hR0.ch0 hch121
          replace hO28 := hO28.ch0 hch121
          replace hB35 := hB35.ch0 hch121
          replace hO52 := hO52.ch0 hch121
          replace hO65 := hO65.ch0 hch121
          replace hc := hc.step0 hch121
          refine tw_free rfl (w0 rfl) rfl rfl (fun u hu => (pv_move (v := (.slice A25 xs27.length c26)) rfl rfl : PV _ _ _ _) u) ?_
          refine tw_free rfl (w0 rfl) rfl rfl (fun u hu => (pv_move (v := (.int .i64 (k : Int))) rfl rfl : PV _ _ _ _) u) ?_
          refine tw_free rfl (w0 rfl) rfl rfl (fun u hu => (pv_idx Try.underlying23 T39 rfl rfl rfl ((hO28.rs (fun _ => rfl)).some (k := k) (by omega)) (by omega) (by omega) : PV _ _ _ _) u) ?_
          refine tw_free rfl (w0 rfl) rfl rfl (fun u hu => (pv_fld F39_0 rfl rfl : PV _ _ _ _) u) ?_
          refine tw_free rfl (w0 rfl) rfl rfl (fun u hu => lv_load T3 rfl rfl (((hO28_r.ch0 hu).rs (fun _ => rfl)).cellE (k := k) (j := 0) (by omega) rfl)) ?_
          refine tw_free rfl (w0 rfl) rfl rfl (fun u hu => (pv_fld F39_0 rfl rfl : PV _ _ _ _) u) ?_
          refine tw_free rfl (w0 rfl) rfl rfl (fun u hu => lv_load T3 rfl rfl ((hB35_r.ch hu (by simp)).cellA (i := 0) rfl)) ?_
          refine tw_free rfl (w0 rfl) rfl rfl (fun u hu => (pv_eql rfl rfl rfl : PV _ _ _ _) u) ?_
          clear hB35_r
          clear hO28_r
          clear hO52_r
          clear hO65_r
          clear hR0_r
          refine tw_done (hK124 _ _ ?_)
          refine hK119 _ _ ?_
          refine cw_cond rfl (fun h127 => ?_) (fun h127 => ?_)
          · -- then
            replace h127 := of_decide_eq_true h127
            refine cw_region fun K128 hK129 => ?_
            refine rw_cons (op_pv (w0 rfl) rfl rfl (pv_move (v := (.slice A25 xs27.length c26)) rfl rfl) ?_)
            refine rw_cons (op_pv (w0 rfl) rfl rfl (pv_move (v := (.int .i64 (k : Int))) rfl rfl) ?_)
            refine rw_cons (op_pv (w0 rfl) rfl rfl (pv_idx Try.underlying23 T39 rfl rfl rfl ((hO28.rs (fun _ => rfl)).some (k := k) (by omega)) (by omega) (by omega)) ?_)
            refine rw_cons (op_pv (w0 rfl) rfl rfl (pv_fld F39_1 rfl rfl) ?_)
            refine rw_cons (op_lv (w0 rfl) rfl rfl (lv_load T3 rfl rfl ((hO28.rs (fun _ => rfl)).cellE (k := k) (j := 1) (by omega) rfl)) ?_)
            refine rw_cons (op_pv (w0 rfl) rfl rfl (pv_assign (v := (.int .i64 (el xs27 k).a)) rfl rfl) ?_)
            refine rw_nil (hK129 _ _ ?_)
            refine hK117 _ _ ?_
            refine cw_region fun K130 hK131 => ?_
            refine rw_cons (op_pv (w0 rfl) rfl rfl (pv_move (v := (.int .i64 (k : Int))) rfl rfl) ?_)
            refine rw_cons (op_pv (w0 rfl) rfl rfl (pv_add rfl rfl rfl (by omega) (by omega)) ?_)
            refine rw_cons (op_pv (w0 rfl) rfl rfl (pv_assign (v := (.int .i64 ((k : Int) + 1))) rfl rfl) ?_)
            refine rw_nil (hK131 _ _ ?_)
            refine hK101 _ _ (k + 1) ⟨(iv (oldL_yes (x := ⟨s21, a22⟩) (xs := xs27) (k := k) (by omega) (by assumption)).symm), (iv (by omega)), rfl, rfl, rfl, rfl, trivial⟩ ⟨?_, hR0, hO28, hB35, hO52, hO65, hc, (by omega), (by omega)⟩ ?_
            · omega
            · (first | omega | (simp only []; omega))
          · -- else
            replace h127 := of_decide_eq_false h127
            refine cw_skip ?_
            refine hK117 _ _ ?_
            refine cw_region fun K132 hK133 => ?_
            refine rw_cons (op_pv (w0 rfl) rfl rfl (pv_move (v := (.int .i64 (k : Int))) rfl rfl) ?_)
            refine rw_cons (op_pv (w0 rfl) rfl rfl (pv_add rfl rfl rfl (by omega) (by omega)) ?_)
            refine rw_cons (op_pv (w0 rfl) rfl rfl (pv_assign (v := (.int .i64 ((k : Int) + 1))) rfl rfl) ?_)
            refine rw_nil (hK133 _ _ ?_)
            refine hK101 _ _ (k + 1) ⟨(iv (oldL_no (x := ⟨s21, a22⟩) (xs := xs27) (k := k) (by omega) (by assumption)).symm), (iv (by omega)), rfl, rfl, rfl, rfl, trivial⟩ ⟨?_, hR0, hO28, hB35, hO52, hO65, hc, (by omega), (by omega)⟩ ?_
            · omega
            · (first | omega | (simp only []; omega))
        · -- else
          replace h115 := of_decide_eq_false h115
          refine cw_exit ?_
          refine hK92 _ _ ?_
          refine cw_seq fun K134 hK135 => ?_
          refine cw_seq fun K136 hK137 => ?_
          refine cw_region fun K138 hK139 => ?_
          refine rw_cons (op_pv (w0 rfl) rfl rfl (pv_assign (v := (.int .i64 0)) rfl rfl) ?_)
          refine rw_nil (hK139 _ _ ?_)
          refine hK137 _ _ ?_
          refine cw_block ?_
          refine cw_loop (σ := Nat) (fun m => [(11, (.int .i64 (m : Int))), (4, (.pointer (some (⟨g33, 0, none⟩)))), (5, (.slice A50 (hearV xs27 ⟨s21, a22⟩).length c51)), (9, (.int .i64 (oldL ⟨s21, a22⟩ (xs27.take k))))]) (fun m W => (m ≤ (hearV xs27 ⟨s21, a22⟩).length ∧ ∀ j, j < m → (el (hearV xs27 ⟨s21, a22⟩) j).s ≠ s21) ∧ RS encU 1 W w.heap.size A0 n0 xs0 ∧ Own encB 2 W w.heap.size 39 (.slice A25 xs27.length c26) xs27 ∧ Blk W g33 39 [(.int .i64 s21), (.int .i64 a22)] ∧ Own encB 2 W w40.heap.size 39 (.slice A50 (hearV xs27 ⟨s21, a22⟩).length c51) (hearV xs27 ⟨s21, a22⟩) ∧ Own encB 2 W w48.heap.size 39 (.slice A63 (hearV xs27 ⟨s21, a22⟩).length c64) (hearV xs27 ⟨s21, a22⟩) ∧ Ch [] w W ∧ w40.heap.size ≤ W.heap.size ∧ w48.heap.size ≤ W.heap.size) (fun m => (hearV xs27 ⟨s21, a22⟩).length - m) 0 ?_ ?_ ?_
          · exact ⟨rfl, rfl, rfl, rfl, trivial⟩
          · refine ⟨⟨Nat.zero_le _, fun j hj => by omega⟩, hR0, hO28, hB35, hO52, hO65, hc, (by omega), (by omega)⟩
          · rintro m J146 w140 ⟨⟨hm, hne⟩, hR0, hO28, hB35, hO52, hO65, hc, hmono141, hmono142⟩ K143 hK144
            have hsz148 := hc.size
            have hub149 := hO28.lt
            have hub150 := hO52.lt
            have hub151 := hO65.lt
            refine cw_seq fun K152 hK153 => ?_
            refine cw_seq fun K154 hK155 => ?_
            refine cw_region fun K156 hK157 => ?_
            refine rw_cons (op_pv (w0 rfl) rfl rfl (pv_move (v := (.int .i64 (m : Int))) rfl rfl) ?_)
            refine rw_cons (op_pv (w0 rfl) rfl rfl (pv_move (v := (.slice A50 (hearV xs27 ⟨s21, a22⟩).length c51)) rfl rfl) ?_)
            refine rw_cons (op_pv (w0 rfl) rfl rfl (pv_len Try.underlying23 rfl rfl) ?_)
            refine rw_cons (op_pv (w0 rfl) rfl rfl (pv_lss rfl rfl rfl) ?_)
            refine rw_nil (hK157 _ _ ?_)
            refine hK155 _ _ ?_
            refine cw_cond rfl (fun h158 => ?_) (fun h158 => ?_)
            · -- then
              replace h158 := of_decide_eq_true h158
              refine cw_skip ?_
              refine hK153 _ _ ?_
              refine cw_seq fun K159 hK160 => ?_
              refine cw_block ?_
              refine cw_seq fun K161 hK162 => ?_
              refine cw_drawn (fun u => Ch [] w140 u) (.free 0 (.free 1 (.free 2 (.free 3 (.free 4 (.free 5 (.free 6 (.free 7 (.done))))))))) (by kernel_rfl) (by kernel_rfl) (Ch.refl _ _).drew fun K166 hK167 => ?_
              obtain ⟨w163, hw_, hch164, hsz165⟩ : ∃ w1 : World, w1 = w140.drew ∧ Ch [] w140 w1 ∧ w1.heap.size = w140.heap.size := ⟨_, rfl, (Ch.refl _ _).drew, rfl⟩
              rw [← hw_]; clear hw_
              have hr168 : Ch [] w140 w163 := hch164.sub (fun s hs => by cases hs)
              have hR0_r := hR0
              have hO28_r := hO28
              have hB35_r := hB35
              have hO52_r := hO52
              have hO65_r := hO65
              have hsz169 := hch164.size
              replace hR0 := hR0.ch0 hch164
              replace hO28 := hO28.ch0 hch164
              replace hB35 := hB35.ch0 hch164
              replace hO52 := hO52.ch0 hch164
              replace hO65 := hO65.ch0 hch164
              replace hc := hc.step0 hch164
              refine tw_free rfl (w0 rfl) rfl rfl (fun u hu => (pv_move (v := (.slice A50 (hearV xs27 ⟨s21, a22⟩).length c51)) rfl rfl : PV _ _ _ _) u) ?_
              refine tw_free rfl (w0 rfl) rfl rfl (fun u hu => (pv_move (v := (.int .i64 (m : Int))) rfl rfl : PV _ _ _ _) u) ?_
              refine tw_free rfl (w0 rfl) rfl rfl (fun u hu => (pv_idx Try.underlying23 T39 rfl rfl rfl ((hO52.rs (fun _ => rfl)).some (k := m) (by omega)) (by omega) (by omega) : PV _ _ _ _) u) ?_
              refine tw_free rfl (w0 rfl) rfl rfl (fun u hu => (pv_fld F39_0 rfl rfl : PV _ _ _ _) u) ?_
              refine tw_free rfl (w0 rfl) rfl rfl (fun u hu => lv_load T3 rfl rfl (((hO52_r.ch0 hu).rs (fun _ => rfl)).cellE (k := m) (j := 0) (by omega) rfl)) ?_
              refine tw_free rfl (w0 rfl) rfl rfl (fun u hu => (pv_fld F39_0 rfl rfl : PV _ _ _ _) u) ?_
              refine tw_free rfl (w0 rfl) rfl rfl (fun u hu => lv_load T3 rfl rfl ((hB35_r.ch hu (by simp)).cellA (i := 0) rfl)) ?_
              refine tw_free rfl (w0 rfl) rfl rfl (fun u hu => (pv_eql rfl rfl rfl : PV _ _ _ _) u) ?_
              clear hB35_r
              clear hO28_r
              clear hO52_r
              clear hO65_r
              clear hR0_r
              refine tw_done (hK167 _ _ ?_)
              refine hK162 _ _ ?_
              refine cw_cond rfl (fun h170 => ?_) (fun h170 => ?_)
              · -- then
                replace h170 := of_decide_eq_true h170
                refine cw_seq fun K171 hK172 => ?_
                refine cw_drawn (fun u => Ch [] w163 u) (.free 0 (.free 1 (.free 2 (.free 3 (.free 4 (.free 5 (.free 6 (.free 7 (.free 8 (.free 9 (.free 10 (.free 11 (.one 12 true (.free 13 (.free 14 (.done)))))))))))))))) (by kernel_rfl) (by kernel_rfl) (Ch.refl _ _).drew fun K176 hK177 => ?_
                obtain ⟨w173, hw_, hch174, hsz175⟩ : ∃ w1 : World, w1 = w163.drew ∧ Ch [] w163 w1 ∧ w1.heap.size = w163.heap.size := ⟨_, rfl, (Ch.refl _ _).drew, rfl⟩
                rw [← hw_]; clear hw_
                have hr178 : Ch [] w163 w173 := hch174.sub (fun s hs => by cases hs)
                have hR0_r := hR0
                have hO28_r := hO28
                have hB35_r := hB35
                have hO52_r := hO52
                have hO65_r := hO65
                have hsz179 := hch174.size
                replace hR0 := hR0.ch0 hch174
                replace hO28 := hO28.ch0 hch174
                replace hB35 := hB35.ch0 hch174
                replace hO52 := hO52.ch0 hch174
                replace hO65 := hO65.ch0 hch174
                replace hc := hc.step0 hch174
                refine tw_free rfl (w0 rfl) rfl rfl (fun u hu => (pv_move (v := (.slice A50 (hearV xs27 ⟨s21, a22⟩).length c51)) rfl rfl : PV _ _ _ _) u) ?_
                refine tw_free rfl (w0 rfl) rfl rfl (fun u hu => (pv_move (v := (.int .i64 (m : Int))) rfl rfl : PV _ _ _ _) u) ?_
                refine tw_free rfl (w0 rfl) rfl rfl (fun u hu => (pv_idx Try.underlying23 T39 rfl rfl rfl ((hO52.rs (fun _ => rfl)).some (k := m) (by omega)) (by omega) (by omega) : PV _ _ _ _) u) ?_
                refine tw_free rfl (w0 rfl) rfl rfl (fun u hu => (pv_fld F39_1 rfl rfl : PV _ _ _ _) u) ?_
                refine tw_free rfl (w0 rfl) rfl rfl (fun u hu => lv_load T3 rfl rfl (((hO52_r.ch0 hu).rs (fun _ => rfl)).cellE (k := m) (j := 1) (by omega) rfl)) ?_
                refine tw_free rfl (w0 rfl) rfl rfl (fun u hu => (pv_move (v := (.int .i64 (oldL ⟨s21, a22⟩ (xs27.take k)))) rfl rfl : PV _ _ _ _) u) ?_
                refine tw_free rfl (w0 rfl) rfl rfl (fun u hu => (pv_fld F39_1 rfl rfl : PV _ _ _ _) u) ?_
                refine tw_free rfl (w0 rfl) rfl rfl (fun u hu => lv_load T3 rfl rfl ((hB35_r.ch hu (by simp)).cellA (i := 1) rfl)) ?_
                refine tw_free rfl (w0 rfl) rfl rfl (fun u hu => (pv_max rfl rfl rfl : PV _ _ _ _) u) ?_
                refine tw_free rfl (w0 rfl) rfl rfl (fun u hu => (pv_eql rfl rfl rfl : PV _ _ _ _) u) ?_
                refine tw_free rfl (w0 rfl) rfl rfl (fun u hu => (pv_move (v := (.bool (decide (((el (hearV xs27 ⟨s21, a22⟩) m).a : Int) = (max (oldL ⟨s21, a22⟩ (xs27.take k)) a22))))) rfl rfl : PV _ _ _ _) u) ?_
                refine tw_split 96 rfl (fun hb180 => ?_) (fun hb180 => ?_)
                · -- yes
                  replace hb180 := of_decide_eq_true hb180
                  refine tw_free rfl (w1y rfl rfl rfl rfl) rfl rfl (fun u hu => (pv_move (v := (.slice A50 (hearV xs27 ⟨s21, a22⟩).length c51)) rfl rfl : PV _ _ _ _) u) ?_
                  refine tw_one rfl (op_call (w1y rfl rfl rfl rfl) rfl rfl (rc_call C17 rfl rfl) (BeatsValid_i _ _ _ (hearV xs27 ⟨s21, a22⟩) _ (hO52.rs (fun _ => rfl)) (by omega)) ?_)
                  rintro _ w181 ⟨rfl, hch182⟩
                  have hsz183 := hch182.size
                  replace hR0 := hR0.ch0 hch182
                  replace hO28 := hO28.ch0 hch182
                  replace hB35 := hB35.ch0 hch182
                  replace hO52 := hO52.ch0 hch182
                  replace hO65 := hO65.ch0 hch182
                  replace hc := hc.step0 hch182
                  replace hr178 := hr178.step0 hch182
                  refine ⟨fun _ => hr178, ?_⟩
                  refine tw_free rfl (w0 rfl) rfl rfl (fun u hu => (pv_pickT (v := (.bool (dec (BeatsOK (hearV xs27 ⟨s21, a22⟩))))) rfl rfl rfl : PV _ _ _ _) u) ?_
                  refine tw_free rfl (w0 rfl) rfl rfl (fun u hu => (pv_assign (v := (.bool (dec (BeatsOK (hearV xs27 ⟨s21, a22⟩))))) rfl rfl : PV _ _ _ _) u) ?_
                  clear hB35_r
                  clear hO28_r
                  clear hO52_r
                  clear hO65_r
                  clear hR0_r
                  refine tw_done (hK177 _ _ ?_)
                  refine hK172 _ _ ?_
                  refine cw_ret ?_
                  refine fin1 rfl ?_
                  exact ⟨congrArg Value.bool (dec_yes (by rw [hev]; exact hok.2.2)), hc⟩
                · -- no
                  replace hb180 := of_decide_eq_false hb180
                  refine tw_pass rfl (w1n1 rfl rfl rfl rfl) rfl rfl ?_
                  refine tw_one rfl (op_pass (w1n1 rfl rfl rfl rfl) rfl rfl ?_)
                  refine ⟨fun _ => hr178, ?_⟩
                  refine tw_free rfl (w0 rfl) rfl rfl (fun u hu => (pv_pickF (v := (.bool false)) rfl rfl rfl : PV _ _ _ _) u) ?_
                  refine tw_free rfl (w0 rfl) rfl rfl (fun u hu => (pv_assign (v := (.bool false)) rfl rfl : PV _ _ _ _) u) ?_
                  clear hB35_r
                  clear hO28_r
                  clear hO52_r
                  clear hO65_r
                  clear hR0_r
                  refine tw_done (hK177 _ _ ?_)
                  refine hK172 _ _ ?_
                  refine cw_ret ?_
                  refine fin1 rfl ?_
                  exfalso
                  have hat := hear_at hok (i := m) (by rw [← hev]; omega) (by rw [← hev]; assumption)
                  rw [← hev] at hat
                  have hold : oldL ⟨s21, a22⟩ (xs27.take k) = oldL ⟨s21, a22⟩ xs27 := by rw [el_take_all _ k (by omega)]
                  rw [← hold] at hat
                  exact absurd hat (by assumption)
              · -- else
                replace h170 := of_decide_eq_false h170
                refine cw_skip ?_
                refine hK160 _ _ ?_
                refine cw_region fun K184 hK185 => ?_
                refine rw_cons (op_pv (w0 rfl) rfl rfl (pv_move (v := (.int .i64 (m : Int))) rfl rfl) ?_)
                refine rw_cons (op_pv (w0 rfl) rfl rfl (pv_add rfl rfl rfl (by omega) (by omega)) ?_)
                refine rw_cons (op_pv (w0 rfl) rfl rfl (pv_assign (v := (.int .i64 ((m : Int) + 1))) rfl rfl) ?_)
                refine rw_nil (hK185 _ _ ?_)
                refine hK144 _ _ (m + 1) ⟨(iv (by omega)), rfl, rfl, rfl, trivial⟩ ⟨?_, hR0, hO28, hB35, hO52, hO65, hc, (by omega), (by omega)⟩ ?_
                · refine ⟨by omega, fun j hj => ?_⟩
                  by_cases hjk : j = m
                  · subst hjk; assumption
                  · exact hne j (by omega)
                · (first | omega | (simp only []; omega))
            · -- else
              replace h158 := of_decide_eq_false h158
              refine cw_exit ?_
              refine hK135 _ _ ?_
              refine cw_seq fun K186 hK187 => ?_
              refine cw_region fun K188 hK189 => ?_
              refine rw_cons (op_pv (w0 rfl) rfl rfl (pv_assign (v := (.bool false)) rfl rfl) ?_)
              refine rw_nil (hK189 _ _ ?_)
              refine hK187 _ _ ?_
              refine cw_ret ?_
              refine fin1 rfl ?_
              exfalso
              obtain ⟨i, h1, h2, _⟩ := hear_has xs27 ⟨s21, a22⟩
              exact hne i (by rw [← hev] at h1; omega) (by rw [hev]; exact h2)
end Go.Proofs.Ytnkjljjcionfiaa

/-
  The walk of laws.FnHearAlive, written by program: each line names the law of one operation. Conditions: those of the theorem.
-/
import Derived.Test.YtnkjljjcionfiaaProg
import Derived.Test.YtnkjljjcionfiaaBeats2
import Derived.Test.YtnkjljjcionfiaaFspecDrawBeatHear
import Derived.Test.YtnkjljjcionfiaaFimplBeatHear
import Derived.Test.YtnkjljjcionfiaaFspecBeatHear
import Derived.Test.YtnkjljjcionfiaaFlawssameBeats
import Derived.Test.YtnkjljjcionfiaaFimplBeatsAlive
import Derived.Test.YtnkjljjcionfiaaFlawshasInt
import Derived.KernelRfl
namespace Go.Proofs.Ytnkjljjcionfiaa
open Go Go.RowKit
set_option linter.unusedVariables false
set_option linter.unusedSimpArgs false
namespace FnHearAlive_okF
theorem T3 : TI Try.prog 3 false (.int .i64 0) 1 8 := TI.mk' Try.underlying3 rfl (by kernel_rfl)
theorem T39 : TI Try.prog 39 true (.agg #[.int .i64 0, .int .i64 0]) 2 16 := TI.mk' Try.underlying39 rfl (by kernel_rfl)
theorem F39_0 : FldOK Try.prog 39 0 0 := ⟨_, _, 0, Try.underlying39, rfl, rfl, by kernel_rfl⟩
theorem F39_1 : FldOK Try.prog 39 1 1 := ⟨_, _, 0, Try.underlying39, rfl, rfl, by kernel_rfl⟩
theorem C23 : Callable Try.prog 23 := ⟨_, Try.func23, by kernel_rfl, by kernel_rfl⟩
theorem C26 : Callable Try.prog 26 := ⟨_, Try.func26, by kernel_rfl, by kernel_rfl⟩
theorem C34 : Callable Try.prog 34 := ⟨_, Try.func34, by kernel_rfl, by kernel_rfl⟩
theorem C35 : Callable Try.prog 35 := ⟨_, Try.func35, by kernel_rfl, by kernel_rfl⟩
theorem C36 : Callable Try.prog 36 := ⟨_, Try.func36, by kernel_rfl, by kernel_rfl⟩
theorem C37 : Callable Try.prog 37 := ⟨_, Try.func37, by kernel_rfl, by kernel_rfl⟩
end FnHearAlive_okF
open FnHearAlive_okF in
set_option maxHeartbeats 4000000 in
theorem FnHearAlive_ok (A0 : Option Addr) (n0 c0 : Nat) (xs0 : List UInt8) (A1 : Option Addr) (n1 c1 : Nat) (xs1 : List UInt8) (w : World) (hR0 : RS encU 1 w w.heap.size A0 n0 xs0) (hn0 : n0 ≤ c0) (hR1 : RS encU 1 w w.heap.size A1 n1 xs1) (hn1 : n1 ≤ c1) :
    Fn Try.prog 15 [(.slice A0 n0 c0), (.slice A1 n1 c1)] w fun v w' => v = .bool true ∧ Ch [] w w' := by
  have hlen0 := hR0.len
  have hlen1 := hR1.len
  refine fn_of (n := 68) Try.func15 rfl rfl rfl rfl ?_
  have hc : Ch [] w w := Ch.refl _ _
  refine cw_seq fun K1 hK2 => ?_
  refine cw_region fun K3 hK4 => ?_
  refine rw_cons (op_pv (w0 rfl) rfl rfl (pv_assign (v := (.bool false)) rfl rfl) ?_)
  refine rw_nil (hK4 _ _ ?_)
  refine hK2 _ _ ?_
  refine cw_seq fun K5 hK6 => ?_
  refine cw_seq fun K7 hK8 => ?_
  refine cw_region fun K9 hK10 => ?_
  refine rw_cons (op_pv (w0 rfl) rfl rfl (pv_move (v := (.slice A0 n0 c0)) rfl rfl) ?_)
  refine rw_cons (op_pv (w0 rfl) rfl rfl (pv_len Try.underlying22 rfl rfl) ?_)
  refine rw_cons (op_pv (w0 rfl) rfl rfl (pv_gtr rfl rfl rfl) ?_)
  refine rw_cons (op_pv (w0 rfl) rfl rfl (pv_move (v := (.bool (decide (1048576 < (n0 : Int))))) rfl rfl) ?_)
  refine rw_split 14 rfl (fun hb11 => ?_) (fun hb11 => ?_)
  · -- yes
    replace hb11 := of_decide_eq_true hb11
    refine rw_cons (op_pass (w1n2 rfl rfl rfl rfl) rfl rfl ?_)
    refine rw_cons (op_pass (w1n2 rfl rfl rfl rfl) rfl rfl ?_)
    refine rw_cons (op_pass (w1n2 rfl rfl rfl rfl) rfl rfl ?_)
    refine rw_cons (op_pv (w0 rfl) rfl rfl (pv_pickT (v := (.bool true)) rfl rfl rfl) ?_)
    refine rw_nil (hK10 _ _ ?_)
    refine hK8 _ _ ?_
    refine cw_cond rfl (fun h12 => ?_) (fun h12 => ?_)
    · -- then
      clear h12
      refine cw_seq fun K13 hK14 => ?_
      refine cw_region fun K15 hK16 => ?_
      refine rw_cons (op_pv (w0 rfl) rfl rfl (pv_assign (v := (.bool true)) rfl rfl) ?_)
      refine rw_nil (hK16 _ _ ?_)
      refine hK14 _ _ ?_
      refine cw_ret ?_
      refine fin1 rfl ?_
      exact ⟨rfl, hc⟩
    · -- else
      cases h12
  · -- no
    replace hb11 := of_decide_eq_false hb11
    refine rw_cons (op_pv (w1y rfl rfl rfl rfl) rfl rfl (pv_move (v := (.slice A1 n1 c1)) rfl rfl) ?_)
    refine rw_cons (op_pv (w1y rfl rfl rfl rfl) rfl rfl (pv_len Try.underlying22 rfl rfl) ?_)
    refine rw_cons (op_pv (w1y rfl rfl rfl rfl) rfl rfl (pv_gtr rfl rfl rfl) ?_)
    refine rw_cons (op_pv (w0 rfl) rfl rfl (pv_pickF (v := (.bool (decide (1048576 < (n1 : Int))))) rfl rfl rfl) ?_)
    refine rw_nil (hK10 _ _ ?_)
    refine hK8 _ _ ?_
    refine cw_cond rfl (fun h17 => ?_) (fun h17 => ?_)
    · -- then
      replace h17 := of_decide_eq_true h17
      refine cw_seq fun K18 hK19 => ?_
      refine cw_region fun K20 hK21 => ?_
      refine rw_cons (op_pv (w0 rfl) rfl rfl (pv_assign (v := (.bool true)) rfl rfl) ?_)
      refine rw_nil (hK21 _ _ ?_)
      refine hK19 _ _ ?_
      refine cw_ret ?_
      refine fin1 rfl ?_
      exact ⟨rfl, hc⟩
    · -- else
      replace h17 := of_decide_eq_false h17
      refine cw_skip ?_
      refine hK6 _ _ ?_
      refine cw_seq fun K22 hK23 => ?_
      refine cw_region fun K24 hK25 => ?_
      refine rw_cons (op_pv (w0 rfl) rfl rfl (pv_move (v := (.slice A0 n0 c0)) rfl rfl) ?_)
      refine rw_cons (op_call (w0 rfl) rfl rfl (rc_call C34 rfl rfl) (DrawBeatHear_ok _ _ _ _ _ (hR0.more (by omega)) (by omega)) ?_)
      rintro _ w26 ⟨A31, c32, xs33, s27, a28, rfl, hO34, hx29, hch30⟩
      have hsz36 := hch30.size
      replace hR0 := hR0.ch0 hch30
      replace hR1 := hR1.ch0 hch30
      replace hc := hc.step0 hch30
      have hub35 := hO34.lt
      have hcap37 : xs33.length ≤ c32 := by obtain ⟨_, _, hv, h1, _⟩ := hO34.form; injection hv with _ _ h3; omega
      refine rw_cons (op_pv (w0 rfl) rfl rfl (pv_move (v := (.tuple #[(.slice A31 xs33.length c32), (.agg #[(.int .i64 s27), (.int .i64 a28)])])) rfl rfl) ?_)
      refine rw_cons (op_pv (w0 rfl) rfl rfl (pv_ext (v := (.slice A31 xs33.length c32)) rfl rfl rfl) ?_)
      refine rw_cons (op_pv (w0 rfl) rfl rfl (pv_ext (v := (.agg #[(.int .i64 s27), (.int .i64 a28)])) rfl rfl rfl) ?_)
      refine rw_cons (op_alloc T39 (w0 rfl) rfl rfl rfl ?_)
      rintro g39 w38 hg42 hg43 hB41 hch40
      have hsz44 := hch40.size
      replace hR0 := hR0.ch0 hch40
      replace hR1 := hR1.ch0 hch40
      replace hO34 := hO34.ch0 hch40
      replace hc := hc.step0 hch40
      replace hB41 : Blk w38 g39 39 [(.int .i64 0), (.int .i64 0)] := hB41
      have hdj45 : ∀ s ∈ obl (.slice A31 xs33.length c32), s ≠ g39 := fun s hs => by have := hub35 s hs; omega
      refine rw_cons (op_pv (w0 rfl) rfl rfl (pv_assign (v := (.slice A31 xs33.length c32)) rfl rfl) ?_)
      refine rw_cons (op_store_blk T39 hB41 (w0 rfl) rfl rfl rfl rfl rfl (one_all rfl) (Nat.le_of_ble_eq_true rfl) ?_)
      rintro w46 hB48 hch47
      have hsz49 := hch47.size
      replace hR0 := hR0.ch hch47 (off1 (by omega))
      replace hR1 := hR1.ch hch47 (off1 (by omega))
      replace hO34 := hO34.ch hch47 (fun s hs => by have := dj_asg hdj45 s hs; simpa using this)
      replace hc := (off1 (by omega)).step hc hch47
      replace hB41 : Blk w46 g39 39 [(.int .i64 s27), (.int .i64 a28)] := hB48
      clear hB48
      refine rw_nil (hK25 _ _ ?_)
      refine hK23 _ _ ?_
      refine cw_seq fun K50 hK51 => ?_
      refine cw_region fun K52 hK53 => ?_
      refine rw_cons (op_pv (w0 rfl) rfl rfl (pv_move (v := (.slice A31 xs33.length c32)) rfl rfl) ?_)
      refine rw_cons (op_lv (w0 rfl) rfl rfl (lv_loadN T39 rfl rfl rfl (fun j v hv => hB41.cellA hv)) ?_)
      refine rw_cons (op_call (w0 rfl) rfl rfl (rc_call C35 rfl rfl) (BeatHear_i _ xs33.length _ xs33 s27 a28 _ (hO34.rs (fun _ => rfl)) (by omega)) ?_)
      rintro _ w54 ⟨A56, c57, rfl, hO58, hch55⟩
      have hsz59 := hch55.size
      replace hR0 := hR0.ch0 hch55
      replace hR1 := hR1.ch0 hch55
      replace hO34 := hO34.ch0 hch55
      replace hB41 := hB41.ch0 hch55
      replace hc := hc.step0 hch55
      have hub60 := hO58.lt
      have hcap61 : (hearV xs33 ⟨s27, a28⟩).length ≤ c57 := by obtain ⟨_, _, hv, h1, _⟩ := hO58.form; injection hv with _ _ h3; omega
      have hnt62 := hearV_le xs33 ⟨s27, a28⟩
      refine rw_cons (op_pv (w0 rfl) rfl rfl (pv_move (v := (.tuple #[(.slice A56 (hearV xs33 ⟨s27, a28⟩).length c57), (.bool (dec (HearOK xs33 ⟨s27, a28⟩)))])) rfl rfl) ?_)
      refine rw_cons (op_pv (w0 rfl) rfl rfl (pv_ext (v := (.slice A56 (hearV xs33 ⟨s27, a28⟩).length c57)) rfl rfl rfl) ?_)
      refine rw_cons (op_pv (w0 rfl) rfl rfl (pv_ext (v := (.bool (dec (HearOK xs33 ⟨s27, a28⟩)))) rfl rfl rfl) ?_)
      refine rw_cons (op_pv (w0 rfl) rfl rfl (pv_assign (v := (.slice A56 (hearV xs33 ⟨s27, a28⟩).length c57)) rfl rfl) ?_)
      refine rw_cons (op_pv (w0 rfl) rfl rfl (pv_assign (v := (.bool (dec (HearOK xs33 ⟨s27, a28⟩)))) rfl rfl) ?_)
      refine rw_nil (hK53 _ _ ?_)
      refine hK51 _ _ ?_
      refine cw_seq fun K63 hK64 => ?_
      refine cw_region fun K65 hK66 => ?_
      refine rw_cons (op_pv (w0 rfl) rfl rfl (pv_move (v := (.slice A31 xs33.length c32)) rfl rfl) ?_)
      refine rw_cons (op_lv (w0 rfl) rfl rfl (lv_loadN T39 rfl rfl rfl (fun j v hv => hB41.cellA hv)) ?_)
      refine rw_cons (op_call (w0 rfl) rfl rfl (rc_call C36 rfl rfl) (BeatHear_s _ xs33.length _ xs33 s27 a28 _ (hO34.rs (fun _ => rfl)) (by omega)) ?_)
      rintro _ w67 ⟨A69, c70, rfl, hO71, hch68⟩
      have hsz72 := hch68.size
      replace hR0 := hR0.ch0 hch68
      replace hR1 := hR1.ch0 hch68
      replace hO34 := hO34.ch0 hch68
      replace hB41 := hB41.ch0 hch68
      replace hO58 := hO58.ch0 hch68
      replace hc := hc.step0 hch68
      have hub73 := hO71.lt
      have hcap74 : (hearV xs33 ⟨s27, a28⟩).length ≤ c70 := by obtain ⟨_, _, hv, h1, _⟩ := hO71.form; injection hv with _ _ h3; omega
      have hnt75 := hearV_le xs33 ⟨s27, a28⟩
      refine rw_cons (op_pv (w0 rfl) rfl rfl (pv_move (v := (.tuple #[(.slice A69 (hearV xs33 ⟨s27, a28⟩).length c70), (.bool (dec (HearOK xs33 ⟨s27, a28⟩)))])) rfl rfl) ?_)
      refine rw_cons (op_pv (w0 rfl) rfl rfl (pv_ext (v := (.slice A69 (hearV xs33 ⟨s27, a28⟩).length c70)) rfl rfl rfl) ?_)
      refine rw_cons (op_pv (w0 rfl) rfl rfl (pv_ext (v := (.bool (dec (HearOK xs33 ⟨s27, a28⟩)))) rfl rfl rfl) ?_)
      refine rw_cons (op_pv (w0 rfl) rfl rfl (pv_assign (v := (.slice A69 (hearV xs33 ⟨s27, a28⟩).length c70)) rfl rfl) ?_)
      refine rw_cons (op_pv (w0 rfl) rfl rfl (pv_assign (v := (.bool (dec (HearOK xs33 ⟨s27, a28⟩)))) rfl rfl) ?_)
      refine rw_nil (hK66 _ _ ?_)
      refine hK64 _ _ ?_
      refine cw_seq fun K76 hK77 => ?_
      refine cw_seq fun K78 hK79 => ?_
      refine cw_region fun K80 hK81 => ?_
      refine rw_cons (op_pv (w0 rfl) rfl rfl (pv_move (v := (.bool (dec (HearOK xs33 ⟨s27, a28⟩)))) rfl rfl) ?_)
      refine rw_cons (op_pv (w0 rfl) rfl rfl (pv_move (v := (.bool (dec (HearOK xs33 ⟨s27, a28⟩)))) rfl rfl) ?_)
      refine rw_cons (op_pv (w0 rfl) rfl rfl (pv_neBs Try.underlying4 rfl rfl rfl) ?_)
      refine rw_cons (op_pv (w0 rfl) rfl rfl (pv_move (v := (.bool false)) rfl rfl) ?_)
      refine rw_cons (op_pv (w1y rfl rfl rfl rfl) rfl rfl (pv_move (v := (.slice A56 (hearV xs33 ⟨s27, a28⟩).length c57)) rfl rfl) ?_)
      refine rw_cons (op_pv (w1y rfl rfl rfl rfl) rfl rfl (pv_move (v := (.slice A69 (hearV xs33 ⟨s27, a28⟩).length c70)) rfl rfl) ?_)
      refine rw_cons (op_call (w1y rfl rfl rfl rfl) rfl rfl (rc_call C37 rfl rfl) (sameBeats_same _ _ _ _ _ _ (hearV xs33 ⟨s27, a28⟩) _ (hO58.rs (fun _ => rfl)) (hO71.rs (fun _ => rfl)) (by omega)) ?_)
      rintro _ w82 ⟨rfl, hch83⟩
      have hsz84 := hch83.size
      replace hR0 := hR0.ch0 hch83
      replace hR1 := hR1.ch0 hch83
      replace hO34 := hO34.ch0 hch83
      replace hB41 := hB41.ch0 hch83
      replace hO58 := hO58.ch0 hch83
      replace hO71 := hO71.ch0 hch83
      replace hc := hc.step0 hch83
      refine rw_cons (op_pv (w1y rfl rfl rfl rfl) rfl rfl (pv_not rfl rfl) ?_)
      refine rw_cons (op_pv (w0 rfl) rfl rfl (pv_pickF (v := (.bool (!true))) rfl rfl rfl) ?_)
      refine rw_cons (op_pv (w0 rfl) rfl rfl (pv_move (v := (.bool (!true))) rfl rfl) ?_)
      refine rw_cons (op_pv (w1y rfl rfl rfl rfl) rfl rfl (pv_move (v := (.bool (dec (HearOK xs33 ⟨s27, a28⟩)))) rfl rfl) ?_)
      refine rw_cons (op_pv (w1y rfl rfl rfl rfl) rfl rfl (pv_not rfl rfl) ?_)
      refine rw_cons (op_pv (w0 rfl) rfl rfl (pv_pickF (v := (.bool (!(dec (HearOK xs33 ⟨s27, a28⟩))))) rfl rfl rfl) ?_)
      refine rw_nil (hK81 _ _ ?_)
      refine hK79 _ _ ?_
      refine cw_cond rfl (fun h85 => ?_) (fun h85 => ?_)
      · -- then
        replace h85 := not_t h85
        replace h85 := dec_f h85
        refine cw_seq fun K86 hK87 => ?_
        refine cw_region fun K88 hK89 => ?_
        refine rw_cons (op_pv (w0 rfl) rfl rfl (pv_move (v := (.bool (dec (HearOK xs33 ⟨s27, a28⟩)))) rfl rfl) ?_)
        refine rw_cons (op_pv (w0 rfl) rfl rfl (pv_move (v := (.bool (dec (HearOK xs33 ⟨s27, a28⟩)))) rfl rfl) ?_)
        refine rw_cons (op_pv (w0 rfl) rfl rfl (pv_eqBs Try.underlying4 rfl rfl rfl) ?_)
        refine rw_cons (op_pv (w0 rfl) rfl rfl (pv_move (v := (.bool true)) rfl rfl) ?_)
        refine rw_cons (op_pv (w1y rfl rfl rfl rfl) rfl rfl (pv_move (v := (.slice A56 (hearV xs33 ⟨s27, a28⟩).length c57)) rfl rfl) ?_)
        refine rw_cons (op_pv (w1y rfl rfl rfl rfl) rfl rfl (pv_move (v := (.slice A69 (hearV xs33 ⟨s27, a28⟩).length c70)) rfl rfl) ?_)
        refine rw_cons (op_call (w1y rfl rfl rfl rfl) rfl rfl (rc_call C37 rfl rfl) (sameBeats_same _ _ _ _ _ _ (hearV xs33 ⟨s27, a28⟩) _ (hO58.rs (fun _ => rfl)) (hO71.rs (fun _ => rfl)) (by omega)) ?_)
        rintro _ w90 ⟨rfl, hch91⟩
        have hsz92 := hch91.size
        replace hR0 := hR0.ch0 hch91
        replace hR1 := hR1.ch0 hch91
        replace hO34 := hO34.ch0 hch91
        replace hB41 := hB41.ch0 hch91
        replace hO58 := hO58.ch0 hch91
        replace hO71 := hO71.ch0 hch91
        replace hc := hc.step0 hch91
        refine rw_cons (op_pv (w0 rfl) rfl rfl (pv_pickT (v := (.bool true)) rfl rfl rfl) ?_)
        refine rw_cons (op_pv (w0 rfl) rfl rfl (pv_assign (v := (.bool true)) rfl rfl) ?_)
        refine rw_nil (hK89 _ _ ?_)
        refine hK87 _ _ ?_
        refine cw_ret ?_
        refine fin1 rfl ?_
        exact ⟨rfl, hc⟩
      · -- else
        replace h85 := not_f h85
        replace h85 := dec_t h85
        refine cw_skip ?_
        refine hK77 _ _ ?_
        refine cw_seq fun K93 hK94 => ?_
        have hok : HearOK xs33 ⟨s27, a28⟩ := by assumption
        have hev := hearV_yes hok
        have hx8 := hok.1.1
        have hhl := hear_len xs33 ⟨s27, a28⟩
        refine cw_drawn (fun u => Ch [] w82 u) (.free 0 (.free 1 (.free 2 (.free 3 (.free 4 (.free 5 (.free 6 (.free 8 (.free 9 (.one 7 true (.one 10 true (.free 11 (.done))))))))))))) (by kernel_rfl) (by kernel_rfl) (Ch.refl _ _).drew fun K98 hK99 => ?_
        obtain ⟨w95, hw_, hch96, hsz97⟩ : ∃ w1 : World, w1 = w82.drew ∧ Ch [] w82 w1 ∧ w1.heap.size = w82.heap.size := ⟨_, rfl, (Ch.refl _ _).drew, rfl⟩
        rw [← hw_]; clear hw_
        have hr100 : Ch [] w82 w95 := hch96.sub (fun s hs => by cases hs)
        have hR0_r := hR0
        have hR1_r := hR1
        have hO34_r := hO34
        have hB41_r := hB41
        have hO58_r := hO58
        have hO71_r := hO71
        have hsz101 := hch96.size
        replace hR0 := hR0.ch0 hch96
        replace hR1 := hR1.ch0 hch96
        replace hO34 := hO34.ch0 hch96
        replace hB41 := hB41.ch0 hch96
        replace hO58 := hO58.ch0 hch96
        replace hO71 := hO71.ch0 hch96
        replace hc := hc.step0 hch96
        refine tw_free rfl (w0 rfl) rfl rfl (fun u hu => (pv_move (v := (.slice A56 (hearV xs33 ⟨s27, a28⟩).length c57)) rfl rfl : PV _ _ _ _) u) ?_
        refine tw_free rfl (w0 rfl) rfl rfl (fun u hu => (pv_fld F39_1 rfl rfl : PV _ _ _ _) u) ?_
        refine tw_free rfl (w0 rfl) rfl rfl (fun u hu => lv_load T3 rfl rfl ((hB41_r.ch hu (by simp)).cellA (i := 1) rfl)) ?_
        refine tw_free rfl (w0 rfl) rfl rfl (fun u hu => (pv_move (v := (.slice A1 n1 c1)) rfl rfl : PV _ _ _ _) u) ?_
        refine tw_free rfl (w0 rfl) rfl rfl (fun u hu => (pv_len Try.underlying22 rfl rfl : PV _ _ _ _) u) ?_
        refine tw_free rfl (w0 rfl) rfl rfl (fun u hu => (pv_rem rfl rfl rfl (by omega) (by omega) : PV _ _ _ _) u) ?_
        refine tw_free rfl (w0 rfl) rfl rfl (fun u hu => (pv_add rfl rfl rfl (by omega) (by omega) : PV _ _ _ _) u) ?_
        refine tw_free rfl (w0 rfl) rfl rfl (fun u hu => (pv_fld F39_0 rfl rfl : PV _ _ _ _) u) ?_
        refine tw_free rfl (w0 rfl) rfl rfl (fun u hu => lv_load T3 rfl rfl ((hB41_r.ch hu (by simp)).cellA (i := 0) rfl)) ?_
        refine tw_one rfl (op_call (w0 rfl) rfl rfl (rc_call C23 rfl rfl) (BeatsAlive_i _ (hearV xs33 ⟨s27, a28⟩).length _ (hearV xs33 ⟨s27, a28⟩) a28 (1 + ((n1 : Int) % 9999)) _ (hO58.rs (fun _ => rfl)) (by omega)) ?_)
        rintro _ w102 ⟨A104, c105, rfl, hO106, hch103⟩
        have hsz107 := hch103.size
        replace hR0 := hR0.ch0 hch103
        replace hR1 := hR1.ch0 hch103
        replace hO34 := hO34.ch0 hch103
        replace hB41 := hB41.ch0 hch103
        replace hO58 := hO58.ch0 hch103
        replace hO71 := hO71.ch0 hch103
        replace hc := hc.step0 hch103
        replace hr100 := hr100.step0 hch103
        have hub108 := hO106.lt
        have hcap109 : (srvV (hearV xs33 ⟨s27, a28⟩) a28 (1 + ((n1 : Int) % 9999)) true).length ≤ c105 := by obtain ⟨_, _, hv, h1, _⟩ := hO106.form; injection hv with _ _ h3; omega
        have hnt110 := srvV_le (hearV xs33 ⟨s27, a28⟩) a28 (1 + ((n1 : Int) % 9999)) true
        refine ⟨fun _ => hr100, ?_⟩
        refine tw_one rfl (op_call (w0 rfl) rfl rfl (rc_call C26 rfl rfl) (hasInt_ok _ (srvV (hearV xs33 ⟨s27, a28⟩) a28 (1 + ((n1 : Int) % 9999)) true).length _ (srvV (hearV xs33 ⟨s27, a28⟩) a28 (1 + ((n1 : Int) % 9999)) true) s27 _ (hO106.rs (fun _ => rfl)) (by omega)) ?_)
        rintro _ w111 ⟨rfl, hch112⟩
        have hsz113 := hch112.size
        replace hR0 := hR0.ch0 hch112
        replace hR1 := hR1.ch0 hch112
        replace hO34 := hO34.ch0 hch112
        replace hB41 := hB41.ch0 hch112
        replace hO58 := hO58.ch0 hch112
        replace hO71 := hO71.ch0 hch112
        replace hO106 := hO106.ch0 hch112
        replace hc := hc.step0 hch112
        replace hr100 := hr100.step0 hch112
        refine ⟨fun _ => hr100, ?_⟩
        refine tw_free rfl (w0 rfl) rfl rfl (fun u hu => (pv_assign (v := (.bool (dec (s27 ∈ (srvV (hearV xs33 ⟨s27, a28⟩) a28 (1 + ((n1 : Int) % 9999)) true))))) rfl rfl : PV _ _ _ _) u) ?_
        clear hB41_r
        clear hO34_r
        clear hO58_r
        clear hO71_r
        clear hR0_r
        clear hR1_r
        refine tw_done (hK99 _ _ ?_)
        refine hK94 _ _ ?_
        refine cw_ret ?_
        refine fin1 rfl ?_
        exact ⟨congrArg Value.bool (dec_yes (hear_alive hok (by omega))), hc⟩
end Go.Proofs.Ytnkjljjcionfiaa

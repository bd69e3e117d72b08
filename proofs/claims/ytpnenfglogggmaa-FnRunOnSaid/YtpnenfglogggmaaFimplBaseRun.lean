/-
  The walk of impl.BaseRun, written by program: each line names the law of one operation. Conditions: those of the theorem.
-/
import Derived.Test.YtpnenfglogggmaaProg
import Derived.Test.YtpnenfglogggmaaBase
import Derived.Test.YtpnenfglogggmaaArr
import Derived.Test.YtpnenfglogggmaaFimplBaseValid
import Derived.Test.YtpnenfglogggmaaFimplLogValid
import Derived.Test.YtpnenfglogggmaaFimplstateFrom
import Derived.Test.YtpnenfglogggmaaFimplbehindimplstateArrayafter
import Derived.Test.YtpnenfglogggmaaFimplstateArraylist
import Derived.KernelRfl
namespace Go.Proofs.Ytpnenfglogggmaa
open Go Go.RowKit
set_option linter.unusedVariables false
set_option linter.unusedSimpArgs false
namespace BaseRun_iF
theorem T3 : TI Try.prog 3 false (.int .i64 0) 1 8 := TI.mk' Try.underlying3 rfl (by kernel_rfl)
theorem T23 : TI Try.prog 23 false (.slice none 0 0) 1 24 := TI.mk' Try.underlying23 rfl (by kernel_rfl)
theorem T25 : TI Try.prog 25 true (.agg #[.int .i64 0, .slice none 0 0]) 2 32 := TI.mk' Try.underlying25 rfl (by kernel_rfl)
theorem T59 : TI Try.prog 59 false (.pointer none) 1 8 := TI.mk' Try.underlying59 rfl (by kernel_rfl)
theorem T62 : TI Try.prog 62 true (.agg #[.int .i64 0, .pointer none]) 2 16 := TI.mk' Try.underlying62 rfl (by kernel_rfl)
theorem F25_0 : FldOK Try.prog 25 0 0 := ⟨_, _, 0, Try.underlying25, rfl, rfl, by kernel_rfl⟩
theorem F25_1 : FldOK Try.prog 25 1 1 := ⟨_, _, 0, Try.underlying25, rfl, rfl, by kernel_rfl⟩
theorem F62_0 : FldOK Try.prog 62 0 0 := ⟨_, _, 0, Try.underlying62, rfl, rfl, by kernel_rfl⟩
theorem F62_1 : FldOK Try.prog 62 1 1 := ⟨_, _, 0, Try.underlying62, rfl, rfl, by kernel_rfl⟩
theorem C9 : Callable Try.prog 9 := ⟨_, Try.func9, by kernel_rfl, by kernel_rfl⟩
theorem C35 : Callable Try.prog 35 := ⟨_, Try.func35, by kernel_rfl, by kernel_rfl⟩
theorem C36 : Callable Try.prog 36 := ⟨_, Try.func36, by kernel_rfl, by kernel_rfl⟩
theorem C37 : Callable Try.prog 37 := ⟨_, Try.func37, by kernel_rfl, by kernel_rfl⟩
theorem C40 : Callable Try.prog 40 := ⟨_, Try.func40, by kernel_rfl, by kernel_rfl⟩
theorem B25  (u : World) : (Instr.build 25 #[]).run Try.prog u = .ok (.agg #[.int .i64 0, .slice none 0 0]) u := by kernel_rfl
theorem B25_0I_1SL (a0 : Int) (a1 : Option Addr) (n1 c1 : Nat) (u : World) : (Instr.build 25 #[(0, .int .i64 a0), (1, .slice a1 n1 c1)]).run Try.prog u = .ok (.agg #[.int .i64 a0, .slice a1 n1 c1]) u := by kernel_rfl
theorem B62_0I_1P (a0 : Int) (a1 : Addr) (u : World) : (Instr.build 62 #[(0, .int .i64 a0), (1, .pointer (some a1))]).run Try.prog u = .ok (.agg #[.int .i64 a0, .pointer (some a1)]) u := by kernel_rfl
end BaseRun_iF
open BaseRun_iF in
set_option maxHeartbeats 4000000 in
theorem BaseRun_i (m : Int) (Axs : Option Addr) (nxs cxs : Nat) (xs : List Int) (Alog : Option Addr) (nlog clog : Nat) (log : List Bt) (w : World) (hRxs : RS encI 1 w w.heap.size Axs nxs xs) (hNxs : nxs ≤ 1099511627776) (hRlog : RS encB 2 w w.heap.size Alog nlog log) (hNlog : nlog ≤ 1099511627776) :
    Fn Try.prog 15 [(.agg #[(.int .i64 m), (.slice Axs nxs cxs)]), (.slice Alog nlog clog)] w fun v w' => ∃ A_1 c_1, v = .tuple #[.agg #[.int .i64 (runM m xs log), .slice A_1 (runV m xs log).length c_1], .bool (dec (RunOK m xs log))] ∧ Own encI 1 w' w.heap.size 3 (.slice A_1 (runV m xs log).length c_1) (runV m xs log) ∧ Ch [] w w' := by
  have hlenxs := hRxs.len
  have hlenlog := hRlog.len
  refine fn_of (n := 38) Try.func15 rfl rfl rfl rfl ?_
  have hc : Ch [] w w := Ch.refl _ _
  refine cw_seq fun K1 hK2 => ?_
  refine cw_region fun K3 hK4 => ?_
  refine rw_cons (op_box (w0 rfl) rfl rfl rfl rfl ?_)
  rintro g6 w5 hg9 hg10 hB8 hch7
  have hsz11 := hch7.size
  replace hRxs := hRxs.ch0 hch7
  replace hRlog := hRlog.ch0 hch7
  replace hc := hc.step0 hch7
  replace hB8 : Blk w5 g6 25 [(.int .i64 m), (.slice Axs nxs cxs)] := hB8
  refine rw_cons (op_alloc T25 (w0 rfl) rfl rfl rfl ?_)
  rintro g13 w12 hg16 hg17 hB15 hch14
  have hsz18 := hch14.size
  replace hRxs := hRxs.ch0 hch14
  replace hRlog := hRlog.ch0 hch14
  replace hB8 := hB8.ch0 hch14
  replace hc := hc.step0 hch14
  replace hB15 : Blk w12 g13 25 [(.int .i64 0), (.slice none 0 0)] := hB15
  refine rw_cons (op_pv (w0 rfl) rfl rfl (pv_assign (v := (.bool false)) rfl rfl) ?_)
  refine rw_nil (hK4 _ _ ?_)
  refine hK2 _ _ ?_
  refine cw_seq fun K19 hK20 => ?_
  refine cw_seq fun K21 hK22 => ?_
  refine cw_region fun K23 hK24 => ?_
  refine rw_cons (op_lv (w0 rfl) rfl rfl (lv_loadN T25 rfl rfl rfl (fun j v hv => hB8.cellA hv)) ?_)
  refine rw_cons (op_call (w0 rfl) rfl rfl (rc_call C9 rfl rfl) (BaseValid_i m _ nxs _ xs _ (hRxs.more (by omega)) (by omega)) ?_)
  rintro _ w25 ⟨rfl, hch26⟩
  have hsz27 := hch26.size
  replace hRxs := hRxs.ch0 hch26
  replace hRlog := hRlog.ch0 hch26
  replace hB8 := hB8.ch0 hch26
  replace hB15 := hB15.ch0 hch26
  replace hc := hc.step0 hch26
  refine rw_cons (op_pv (w0 rfl) rfl rfl (pv_not rfl rfl) ?_)
  refine rw_cons (op_pv (w0 rfl) rfl rfl (pv_move (v := (.bool (!(dec (BaseOK m xs))))) rfl rfl) ?_)
  refine rw_split 12 rfl (fun hb28 => ?_) (fun hb28 => ?_)
  · -- yes
    replace hb28 := not_t hb28
    replace hb28 := dec_f hb28
    refine rw_cons (op_pass (w1n2 rfl rfl rfl rfl) rfl rfl ?_)
    refine rw_cons (op_pass (w1n2 rfl rfl rfl rfl) rfl rfl ?_)
    refine rw_cons (op_pass (w1n2 rfl rfl rfl rfl) rfl rfl ?_)
    refine rw_cons (op_pv (w0 rfl) rfl rfl (pv_pickT (v := (.bool true)) rfl rfl rfl) ?_)
    refine rw_nil (hK24 _ _ ?_)
    refine hK22 _ _ ?_
    refine cw_cond rfl (fun h29 => ?_) (fun h29 => ?_)
    · -- then
      clear h29
      refine cw_seq fun K30 hK31 => ?_
      refine cw_region fun K32 hK33 => ?_
      refine rw_cons (op_pv (w0 rfl) rfl rfl (pv_build rfl rfl (B25 )) ?_)
      refine rw_cons (op_store_blk T25 hB15 (w0 rfl) rfl rfl rfl rfl rfl (one_all rfl) (Nat.le_of_ble_eq_true rfl) ?_)
      rintro w34 hB36 hch35
      have hsz37 := hch35.size
      replace hRxs := hRxs.ch hch35 (off1 (by omega))
      replace hRlog := hRlog.ch hch35 (off1 (by omega))
      replace hB8 := hB8.ch hch35 (by simp; omega)
      replace hc := (off1 (by omega)).step hc hch35
      replace hB15 : Blk w34 g13 25 [(.int .i64 0), (.slice none 0 0)] := hB36
      clear hB36
      refine rw_cons (op_pv (w0 rfl) rfl rfl (pv_assign (v := (.bool false)) rfl rfl) ?_)
      refine rw_nil (hK33 _ _ ?_)
      refine hK31 _ _ ?_
      refine cw_ret ?_
      refine finCT T25 rfl rfl rfl (fun j v hv => hB15.cellA hv) ?_
      have hno : ¬RunOK m xs log := by rintro ⟨h1, h2, h3⟩; rw [hlenlog] at h3; first | contradiction | exact absurd h3 (by assumption)
      have he_1 : ([] : List Int) = runV m xs log := (runV_no hno).symm
      exact ⟨_, _, tup2 (agg2 (iv (runM_no hno).symm) (sl_as (Own.nil encI 1 w34 w.heap.size 3) he_1)) (bvf hno), own_as ((Own.nil encI 1 w34 w.heap.size 3).less (by omega)) he_1, hc⟩
    · -- else
      cases h29
  · -- no
    replace hb28 := not_f hb28
    replace hb28 := dec_t hb28
    refine rw_cons (op_pv (w1y rfl rfl rfl rfl) rfl rfl (pv_move (v := (.slice Alog nlog clog)) rfl rfl) ?_)
    refine rw_cons (op_call (w1y rfl rfl rfl rfl) rfl rfl (rc_call C35 rfl rfl) (LogValid_i _ _ _ log _ (hRlog.more (by omega)) (by omega)) ?_)
    rintro _ w38 ⟨rfl, hch39⟩
    have hsz40 := hch39.size
    replace hRxs := hRxs.ch0 hch39
    replace hRlog := hRlog.ch0 hch39
    replace hB8 := hB8.ch0 hch39
    replace hB15 := hB15.ch0 hch39
    replace hc := hc.step0 hch39
    refine rw_cons (op_pv (w1y rfl rfl rfl rfl) rfl rfl (pv_not rfl rfl) ?_)
    refine rw_cons (op_pv (w0 rfl) rfl rfl (pv_pickF (v := (.bool (!(dec (LogOK log))))) rfl rfl rfl) ?_)
    refine rw_nil (hK24 _ _ ?_)
    refine hK22 _ _ ?_
    refine cw_cond rfl (fun h41 => ?_) (fun h41 => ?_)
    · -- then
      replace h41 := not_t h41
      replace h41 := dec_f h41
      refine cw_seq fun K42 hK43 => ?_
      refine cw_region fun K44 hK45 => ?_
      refine rw_cons (op_pv (w0 rfl) rfl rfl (pv_build rfl rfl (B25 )) ?_)
      refine rw_cons (op_store_blk T25 hB15 (w0 rfl) rfl rfl rfl rfl rfl (one_all rfl) (Nat.le_of_ble_eq_true rfl) ?_)
      rintro w46 hB48 hch47
      have hsz49 := hch47.size
      replace hRxs := hRxs.ch hch47 (off1 (by omega))
      replace hRlog := hRlog.ch hch47 (off1 (by omega))
      replace hB8 := hB8.ch hch47 (by simp; omega)
      replace hc := (off1 (by omega)).step hc hch47
      replace hB15 : Blk w46 g13 25 [(.int .i64 0), (.slice none 0 0)] := hB48
      clear hB48
      refine rw_cons (op_pv (w0 rfl) rfl rfl (pv_assign (v := (.bool false)) rfl rfl) ?_)
      refine rw_nil (hK45 _ _ ?_)
      refine hK43 _ _ ?_
      refine cw_ret ?_
      refine finCT T25 rfl rfl rfl (fun j v hv => hB15.cellA hv) ?_
      have hno : ¬RunOK m xs log := by rintro ⟨h1, h2, h3⟩; rw [hlenlog] at h3; first | contradiction | exact absurd h3 (by assumption)
      have he_1 : ([] : List Int) = runV m xs log := (runV_no hno).symm
      exact ⟨_, _, tup2 (agg2 (iv (runM_no hno).symm) (sl_as (Own.nil encI 1 w46 w.heap.size 3) he_1)) (bvf hno), own_as ((Own.nil encI 1 w46 w.heap.size 3).less (by omega)) he_1, hc⟩
    · -- else
      replace h41 := not_f h41
      replace h41 := dec_t h41
      refine cw_skip ?_
      refine hK20 _ _ ?_
      refine cw_seq fun K50 hK51 => ?_
      have hlo := (‹LogOK log›)
      have hl12 := hlo.1
      have hbo := (‹BaseOK m xs›)
      have hm0 := hbo.1
      have hx5 := hbo.2.1.1
      refine cw_drawn (fun u => Ch [] w38 u) (.free 0 (.free 1 (.free 2 (.free 3 (.two 4 true (.free 5 (.one 6 true (.one 7 false (.done)))) 6 true (.one 4 true (.free 5 (.one 7 false (.done))))))))) (by kernel_rfl) (by kernel_rfl) (Ch.refl _ _).drew fun K55 hK56 => ?_
      obtain ⟨w52, hw_, hch53, hsz54⟩ : ∃ w1 : World, w1 = w38.drew ∧ Ch [] w38 w1 ∧ w1.heap.size = w38.heap.size := ⟨_, rfl, (Ch.refl _ _).drew, rfl⟩
      rw [← hw_]; clear hw_
      have hr57 : Ch [] w38 w52 := hch53.sub (fun s hs => by cases hs)
      have hRxs_r := hRxs
      have hRlog_r := hRlog
      have hB8_r := hB8
      have hB15_r := hB15
      have hsz58 := hch53.size
      replace hRxs := hRxs.ch0 hch53
      replace hRlog := hRlog.ch0 hch53
      replace hB8 := hB8.ch0 hch53
      replace hB15 := hB15.ch0 hch53
      replace hc := hc.step0 hch53
      refine tw_free rfl (w0 rfl) rfl rfl (fun u hu => (pv_fld F25_0 rfl rfl : PV _ _ _ _) u) ?_
      refine tw_free rfl (w0 rfl) rfl rfl (fun u hu => lv_load T3 rfl rfl ((hB8_r.ch hu (by simp)).cellA (i := 0) rfl)) ?_
      refine tw_free rfl (w0 rfl) rfl rfl (fun u hu => (pv_fld F25_1 rfl rfl : PV _ _ _ _) u) ?_
      refine tw_free rfl (w0 rfl) rfl rfl (fun u hu => lv_load T23 rfl rfl ((hB8_r.ch hu (by simp)).cellA (i := 1) rfl)) ?_
      refine tw_two rfl rfl ?_ ?_
      · -- first 4
        refine  (op_call (w0 rfl) rfl rfl (rc_call C36 rfl rfl) (stateFrom_ok _ _ _ xs _ (hRxs.more (by omega)) (by omega)) ?_)
        rintro _ w59 ⟨g60, rfl, hg61, hO62, hch63⟩
        have hsz65 := hch63.size
        replace hRxs := hRxs.ch0 hch63
        replace hRlog := hRlog.ch0 hch63
        replace hB8 := hB8.ch0 hch63
        replace hB15 := hB15.ch0 hch63
        replace hc := hc.step0 hch63
        replace hr57 := hr57.step0 hch63
        have hub64 := hO62.lt
        refine ⟨fun _ => hr57, ?_⟩
        refine tw_free rfl (w0 rfl) rfl rfl (fun u hu => (pv_build rfl rfl (B62_0I_1P _ _) : PV _ _ _ _) u) ?_
        refine tw_one rfl (op_alloc T62 (w0 rfl) rfl rfl rfl ?_)
        rintro g67 w66 hg70 hg71 hB69 hch68
        have hsz72 := hch68.size
        replace hRxs := hRxs.ch0 hch68
        replace hRlog := hRlog.ch0 hch68
        replace hB8 := hB8.ch0 hch68
        replace hB15 := hB15.ch0 hch68
        replace hO62 := hO62.ch0 hch68
        replace hc := hc.step0 hch68
        replace hr57 := hr57.step0 hch68
        replace hB69 : Blk w66 g67 62 [(.int .i64 0), (.pointer none)] := hB69
        have hdj73 : ∀ s ∈ obl (.slice (some ⟨g60, 0, none⟩) 5 5), s ≠ g67 := fun s hs => by have := hub64 s hs; omega
        refine ⟨fun _ => hr57, ?_⟩
        refine tw_one rfl (op_store_blk T62 hB69 (w0 rfl) rfl rfl rfl rfl rfl (one_all rfl) (Nat.le_of_ble_eq_true rfl) ?_)
        rintro w74 hB76 hch75
        have hsz77 := hch75.size
        replace hRxs := hRxs.ch hch75 (off1 (by omega))
        replace hRlog := hRlog.ch hch75 (off1 (by omega))
        replace hB8 := hB8.ch hch75 (by simp; omega)
        replace hB15 := hB15.ch hch75 (by simp; omega)
        replace hO62 := hO62.ch hch75 (fun s hs => by have := dj_asg hdj73 s hs; simpa using this)
        replace hc := (off1 (by omega)).step hc hch75
        clear hr57
        replace hB69 : Blk w74 g67 62 [(.int .i64 m), (.pointer (some (⟨g60, 0, none⟩)))] := hB76
        clear hB76
        refine ⟨fun h => (by cases h), ?_⟩
        clear hB15_r
        clear hB8_r
        clear hRlog_r
        clear hRxs_r
        refine tw_done (hK56 _ _ ?_)
        refine hK51 _ _ ?_
        refine cw_seq fun K78 hK79 => ?_
        refine cw_region fun K80 hK81 => ?_
        refine rw_cons (op_lv (w0 rfl) rfl rfl (lv_loadN T62 rfl rfl rfl (fun j v hv => hB69.cellA hv)) ?_)
        refine rw_cons (op_pv (w0 rfl) rfl rfl (pv_move (v := (.slice Alog nlog clog)) rfl rfl) ?_)
        refine rw_cons (op_call (w0 rfl) rfl rfl (rc_call C37 rfl rfl) (after_ok _ _ _ m _ nlog _ log _ hO62 (hRlog.more (by omega)) (by omega) (fun j hj => ((‹LogOK log›).2 j hj).1) (by omega) (by omega)) ?_)
        rintro _ w82 ⟨rfl, hO83, hch84⟩
        have hsz85 := hch84.size
        replace hRxs := hRxs.ch hch84 (hO62.off.le (by omega))
        replace hRlog := hRlog.ch hch84 (hO62.off.le (by omega))
        replace hB8 := hB8.ch hch84 (by first | (refine hO62.off.not ?_; omega) | (intro hs; have := hub64 _ hs; omega))
        replace hB15 := hB15.ch hch84 (by first | (refine hO62.off.not ?_; omega) | (intro hs; have := hub64 _ hs; omega))
        replace hB69 := hB69.ch hch84 (fun hs => dj_asg hdj73 _ hs rfl)
        replace hc := (hO62.off.le (by omega)).step hc hch84
        clear hO62; have hO62 := hO83; clear hO83
        have hrl86 := runL_len log xs
        refine rw_cons (op_alloc T62 (w0 rfl) rfl rfl rfl ?_)
        rintro g88 w87 hg91 hg92 hB90 hch89
        have hsz93 := hch89.size
        replace hRxs := hRxs.ch0 hch89
        replace hRlog := hRlog.ch0 hch89
        replace hB8 := hB8.ch0 hch89
        replace hB15 := hB15.ch0 hch89
        replace hO62 := hO62.ch0 hch89
        replace hB69 := hB69.ch0 hch89
        replace hc := hc.step0 hch89
        replace hB90 : Blk w87 g88 62 [(.int .i64 0), (.pointer none)] := hB90
        have hdj94 : ∀ s ∈ obl (.slice (some ⟨g60, 0, none⟩) 5 5), s ≠ g88 := fun s hs => by have := hub64 s hs; omega
        refine rw_cons (op_store_blk T62 hB90 (w0 rfl) rfl rfl rfl rfl rfl (one_all rfl) (Nat.le_of_ble_eq_true rfl) ?_)
        rintro w95 hB97 hch96
        have hsz98 := hch96.size
        replace hRxs := hRxs.ch hch96 (off1 (by omega))
        replace hRlog := hRlog.ch hch96 (off1 (by omega))
        replace hB8 := hB8.ch hch96 (by simp; omega)
        replace hB15 := hB15.ch hch96 (by simp; omega)
        replace hO62 := hO62.ch hch96 (fun s hs => by have := dj_asg hdj94 s hs; simpa using this)
        replace hB69 := hB69.ch hch96 (by simp; omega)
        replace hc := (off1 (by omega)).step hc hch96
        replace hB90 : Blk w95 g88 62 [(.int .i64 (m + (nlog : Int))), (.pointer (some (⟨g60, 0, none⟩)))] := hB97
        clear hB97
        refine rw_nil (hK81 _ _ ?_)
        refine hK79 _ _ ?_
        refine cw_seq fun K99 hK100 => ?_
        refine cw_drawn (fun u => Ch [] w95 u) (.free 0 (.free 1 (.free 2 (.free 3 (.two 4 true (.free 5 (.one 6 true (.one 7 false (.done)))) 6 true (.one 4 true (.free 5 (.one 7 false (.done))))))))) (by kernel_rfl) (by kernel_rfl) (Ch.refl _ _).drew fun K104 hK105 => ?_
        obtain ⟨w101, hw_, hch102, hsz103⟩ : ∃ w1 : World, w1 = w95.drew ∧ Ch [] w95 w1 ∧ w1.heap.size = w95.heap.size := ⟨_, rfl, (Ch.refl _ _).drew, rfl⟩
        rw [← hw_]; clear hw_
        have hr106 : Ch [] w95 w101 := hch102.sub (fun s hs => by cases hs)
        have hRxs_r := hRxs
        have hRlog_r := hRlog
        have hB8_r := hB8
        have hB15_r := hB15
        have hO62_r := hO62
        have hB69_r := hB69
        have hB90_r := hB90
        have hsz107 := hch102.size
        replace hRxs := hRxs.ch0 hch102
        replace hRlog := hRlog.ch0 hch102
        replace hB8 := hB8.ch0 hch102
        replace hB15 := hB15.ch0 hch102
        replace hO62 := hO62.ch0 hch102
        replace hB69 := hB69.ch0 hch102
        replace hB90 := hB90.ch0 hch102
        replace hc := hc.step0 hch102
        refine tw_free rfl (w0 rfl) rfl rfl (fun u hu => (pv_fld F62_0 rfl rfl : PV _ _ _ _) u) ?_
        refine tw_free rfl (w0 rfl) rfl rfl (fun u hu => lv_load T3 rfl rfl ((hB90_r.ch hu (by simp)).cellA (i := 0) rfl)) ?_
        refine tw_free rfl (w0 rfl) rfl rfl (fun u hu => (pv_fld F62_1 rfl rfl : PV _ _ _ _) u) ?_
        refine tw_free rfl (w0 rfl) rfl rfl (fun u hu => lv_load T59 rfl rfl ((hB90_r.ch hu (by simp)).cellA (i := 1) rfl)) ?_
        refine tw_two rfl rfl ?_ ?_
        · -- first 4
          refine  (op_call (w0 rfl) rfl rfl (rc_call C40 rfl rfl) (stlist_ok _ _ _ _ hO62) ?_)
          rintro _ w108 ⟨A109, c110, rfl, hO111, hch112⟩
          have hsz113 := hch112.size
          replace hRxs := hRxs.ch0 hch112
          replace hRlog := hRlog.ch0 hch112
          replace hB8 := hB8.ch0 hch112
          replace hB15 := hB15.ch0 hch112
          replace hO62 := hO62.ch0 hch112
          replace hB69 := hB69.ch0 hch112
          replace hB90 := hB90.ch0 hch112
          replace hc := hc.step0 hch112
          replace hr106 := hr106.step0 hch112
          have hub114 := hO111.lt
          have hcap115 : (runL xs log).length ≤ c110 := by obtain ⟨_, _, hv, h1, _⟩ := hO111.form; injection hv with _ _ h3; omega
          refine ⟨fun _ => hr106, ?_⟩
          refine tw_free rfl (w0 rfl) rfl rfl (fun u hu => (pv_build rfl rfl (B25_0I_1SL _ _ _ _) : PV _ _ _ _) u) ?_
          refine tw_one rfl (op_alloc T25 (w0 rfl) rfl rfl rfl ?_)
          rintro g117 w116 hg120 hg121 hB119 hch118
          have hsz122 := hch118.size
          replace hRxs := hRxs.ch0 hch118
          replace hRlog := hRlog.ch0 hch118
          replace hB8 := hB8.ch0 hch118
          replace hB15 := hB15.ch0 hch118
          replace hO62 := hO62.ch0 hch118
          replace hB69 := hB69.ch0 hch118
          replace hB90 := hB90.ch0 hch118
          replace hO111 := hO111.ch0 hch118
          replace hc := hc.step0 hch118
          replace hr106 := hr106.step0 hch118
          replace hB119 : Blk w116 g117 25 [(.int .i64 0), (.slice none 0 0)] := hB119
          have hdj123 : ∀ s ∈ obl (.slice (some ⟨g60, 0, none⟩) 5 5), s ≠ g117 := fun s hs => by have := hub64 s hs; omega
          have hdj124 : ∀ s ∈ obl (.slice A109 (runL xs log).length c110), s ≠ g117 := fun s hs => by have := hub114 s hs; omega
          refine ⟨fun _ => hr106, ?_⟩
          refine tw_one rfl (op_store_blk T25 hB119 (w0 rfl) rfl rfl rfl rfl rfl (one_all rfl) (Nat.le_of_ble_eq_true rfl) ?_)
          rintro w125 hB127 hch126
          have hsz128 := hch126.size
          replace hRxs := hRxs.ch hch126 (off1 (by omega))
          replace hRlog := hRlog.ch hch126 (off1 (by omega))
          replace hB8 := hB8.ch hch126 (by simp; omega)
          replace hB15 := hB15.ch hch126 (by simp; omega)
          replace hO62 := hO62.ch hch126 (fun s hs => by have := dj_asg hdj123 s hs; simpa using this)
          replace hB69 := hB69.ch hch126 (by simp; omega)
          replace hB90 := hB90.ch hch126 (by simp; omega)
          replace hO111 := hO111.ch hch126 (fun s hs => by have := dj_asg hdj124 s hs; simpa using this)
          replace hc := (off1 (by omega)).step hc hch126
          clear hr106
          replace hB119 : Blk w125 g117 25 [(.int .i64 (m + (nlog : Int))), (.slice A109 (runL xs log).length c110)] := hB127
          clear hB127
          refine ⟨fun h => (by cases h), ?_⟩
          clear hB15_r
          clear hB69_r
          clear hB8_r
          clear hB90_r
          clear hO62_r
          clear hRlog_r
          clear hRxs_r
          refine tw_done (hK105 _ _ ?_)
          refine hK100 _ _ ?_
          refine cw_seq fun K129 hK130 => ?_
          refine cw_seq fun K131 hK132 => ?_
          refine cw_region fun K133 hK134 => ?_
          refine rw_cons (op_lv (w0 rfl) rfl rfl (lv_loadN T25 rfl rfl rfl (fun j v hv => hB119.cellA hv)) ?_)
          refine rw_cons (op_call (w0 rfl) rfl rfl (rc_call C9 rfl rfl) (BaseValid_i (m + (nlog : Int)) _ (runL xs log).length _ (runL xs log) _ (hO111.rs (fun _ => rfl)) (by omega)) ?_)
          rintro _ w135 ⟨rfl, hch136⟩
          have hsz137 := hch136.size
          replace hRxs := hRxs.ch0 hch136
          replace hRlog := hRlog.ch0 hch136
          replace hB8 := hB8.ch0 hch136
          replace hB15 := hB15.ch0 hch136
          replace hO62 := hO62.ch0 hch136
          replace hB69 := hB69.ch0 hch136
          replace hB90 := hB90.ch0 hch136
          replace hO111 := hO111.ch0 hch136
          replace hB119 := hB119.ch0 hch136
          replace hc := hc.step0 hch136
          refine rw_cons (op_pv (w0 rfl) rfl rfl (pv_not rfl rfl) ?_)
          refine rw_nil (hK134 _ _ ?_)
          refine hK132 _ _ ?_
          refine cw_cond rfl (fun h138 => ?_) (fun h138 => ?_)
          · -- then
            replace h138 := not_t h138
            replace h138 := dec_f h138
            refine cw_seq fun K139 hK140 => ?_
            refine cw_region fun K141 hK142 => ?_
            refine rw_cons (op_pv (w0 rfl) rfl rfl (pv_build rfl rfl (B25 )) ?_)
            refine rw_cons (op_store_blk T25 hB15 (w0 rfl) rfl rfl rfl rfl rfl (one_all rfl) (Nat.le_of_ble_eq_true rfl) ?_)
            rintro w143 hB145 hch144
            have hsz146 := hch144.size
            replace hRxs := hRxs.ch hch144 (off1 (by omega))
            replace hRlog := hRlog.ch hch144 (off1 (by omega))
            replace hB8 := hB8.ch hch144 (by simp; omega)
            replace hO62 := hO62.ch hch144 (fun s hs => by first | (have := hO62.off s hs; simp; omega) | (have := hub64 s hs; simp; omega))
            replace hB69 := hB69.ch hch144 (by simp; omega)
            replace hB90 := hB90.ch hch144 (by simp; omega)
            replace hO111 := hO111.ch hch144 (fun s hs => by first | (have := hO111.off s hs; simp; omega) | (have := hub114 s hs; simp; omega))
            replace hB119 := hB119.ch hch144 (by simp; omega)
            replace hc := (off1 (by omega)).step hc hch144
            replace hB15 : Blk w143 g13 25 [(.int .i64 0), (.slice none 0 0)] := hB145
            clear hB145
            refine rw_cons (op_pv (w0 rfl) rfl rfl (pv_assign (v := (.bool false)) rfl rfl) ?_)
            refine rw_nil (hK142 _ _ ?_)
            refine hK140 _ _ ?_
            refine cw_ret ?_
            refine finCT T25 rfl rfl rfl (fun j v hv => hB15.cellA hv) ?_
            have hno : ¬RunOK m xs log := by rintro ⟨h1, h2, h3⟩; rw [hlenlog] at h3; first | contradiction | exact absurd h3 (by assumption)
            have he_1 : ([] : List Int) = runV m xs log := (runV_no hno).symm
            exact ⟨_, _, tup2 (agg2 (iv (runM_no hno).symm) (sl_as (Own.nil encI 1 w143 w.heap.size 3) he_1)) (bvf hno), own_as ((Own.nil encI 1 w143 w.heap.size 3).less (by omega)) he_1, hc⟩
          · -- else
            replace h138 := not_f h138
            replace h138 := dec_t h138
            refine cw_skip ?_
            refine hK130 _ _ ?_
            refine cw_seq fun K147 hK148 => ?_
            refine cw_region fun K149 hK150 => ?_
            refine rw_cons (op_lv (w0 rfl) rfl rfl (lv_loadN T25 rfl rfl rfl (fun j v hv => hB119.cellA hv)) ?_)
            refine rw_cons (op_store_blk T25 hB15 (w0 rfl) rfl rfl rfl rfl rfl (one_all rfl) (Nat.le_of_ble_eq_true rfl) ?_)
            rintro w151 hB153 hch152
            have hsz154 := hch152.size
            replace hRxs := hRxs.ch hch152 (off1 (by omega))
            replace hRlog := hRlog.ch hch152 (off1 (by omega))
            replace hB8 := hB8.ch hch152 (by simp; omega)
            replace hO62 := hO62.ch hch152 (fun s hs => by first | (have := hO62.off s hs; simp; omega) | (have := hub64 s hs; simp; omega))
            replace hB69 := hB69.ch hch152 (by simp; omega)
            replace hB90 := hB90.ch hch152 (by simp; omega)
            replace hO111 := hO111.ch hch152 (fun s hs => by first | (have := hO111.off s hs; simp; omega) | (have := hub114 s hs; simp; omega))
            replace hB119 := hB119.ch hch152 (by simp; omega)
            replace hc := (off1 (by omega)).step hc hch152
            replace hB15 : Blk w151 g13 25 [(.int .i64 (m + (nlog : Int))), (.slice A109 (runL xs log).length c110)] := hB153
            clear hB153
            refine rw_cons (op_pv (w0 rfl) rfl rfl (pv_assign (v := (.bool true)) rfl rfl) ?_)
            refine rw_nil (hK150 _ _ ?_)
            refine hK148 _ _ ?_
            refine cw_ret ?_
            refine finCT T25 rfl rfl rfl (fun j v hv => hB15.cellA hv) ?_
            have hyes : RunOK m xs log := ⟨by assumption, by assumption, by rw [hlenlog]; assumption⟩
            have he_1 : (runL xs log) = runV m xs log := (runV_yes hyes).symm
            exact ⟨_, _, tup2 (agg2 (iv (by rw [runM_yes hyes, hlenlog])) (sl_as hO111 he_1)) (bvt hyes), own_as (hO111.less (by omega)) he_1, hc⟩
        · -- first 6
          refine  (op_alloc T25 (w0 rfl) rfl rfl rfl ?_)
          rintro g156 w155 hg159 hg160 hB158 hch157
          have hsz161 := hch157.size
          replace hRxs := hRxs.ch0 hch157
          replace hRlog := hRlog.ch0 hch157
          replace hB8 := hB8.ch0 hch157
          replace hB15 := hB15.ch0 hch157
          replace hO62 := hO62.ch0 hch157
          replace hB69 := hB69.ch0 hch157
          replace hB90 := hB90.ch0 hch157
          replace hc := hc.step0 hch157
          replace hr106 := hr106.step0 hch157
          replace hB158 : Blk w155 g156 25 [(.int .i64 0), (.slice none 0 0)] := hB158
          have hdj162 : ∀ s ∈ obl (.slice (some ⟨g60, 0, none⟩) 5 5), s ≠ g156 := fun s hs => by have := hub64 s hs; omega
          refine ⟨fun _ => hr106, ?_⟩
          refine tw_one rfl (op_call (w0 rfl) rfl rfl (rc_call C40 rfl rfl) (stlist_ok _ _ _ _ hO62) ?_)
          rintro _ w163 ⟨A164, c165, rfl, hO166, hch167⟩
          have hsz168 := hch167.size
          replace hRxs := hRxs.ch0 hch167
          replace hRlog := hRlog.ch0 hch167
          replace hB8 := hB8.ch0 hch167
          replace hB15 := hB15.ch0 hch167
          replace hO62 := hO62.ch0 hch167
          replace hB69 := hB69.ch0 hch167
          replace hB90 := hB90.ch0 hch167
          replace hB158 := hB158.ch0 hch167
          replace hc := hc.step0 hch167
          replace hr106 := hr106.step0 hch167
          have hub169 := hO166.lt
          have hcap170 : (runL xs log).length ≤ c165 := by obtain ⟨_, _, hv, h1, _⟩ := hO166.form; injection hv with _ _ h3; omega
          refine ⟨fun _ => hr106, ?_⟩
          refine tw_free rfl (w0 rfl) rfl rfl (fun u hu => (pv_build rfl rfl (B25_0I_1SL _ _ _ _) : PV _ _ _ _) u) ?_
          refine tw_one rfl (op_store_blk T25 hB158 (w0 rfl) rfl rfl rfl rfl rfl (one_all rfl) (Nat.le_of_ble_eq_true rfl) ?_)
          rintro w171 hB173 hch172
          have hsz174 := hch172.size
          replace hRxs := hRxs.ch hch172 (off1 (by omega))
          replace hRlog := hRlog.ch hch172 (off1 (by omega))
          replace hB8 := hB8.ch hch172 (by simp; omega)
          replace hB15 := hB15.ch hch172 (by simp; omega)
          replace hO62 := hO62.ch hch172 (fun s hs => by have := dj_asg hdj162 s hs; simpa using this)
          replace hB69 := hB69.ch hch172 (by simp; omega)
          replace hB90 := hB90.ch hch172 (by simp; omega)
          replace hO166 := hO166.ch hch172 (fun s hs => by first | (have := hO166.off s hs; simp; omega) | (have := hub169 s hs; simp; omega))
          replace hc := (off1 (by omega)).step hc hch172
          clear hr106
          replace hB158 : Blk w171 g156 25 [(.int .i64 (m + (nlog : Int))), (.slice A164 (runL xs log).length c165)] := hB173
          clear hB173
          refine ⟨fun h => (by cases h), ?_⟩
          clear hB15_r
          clear hB69_r
          clear hB8_r
          clear hB90_r
          clear hO62_r
          clear hRlog_r
          clear hRxs_r
          refine tw_done (hK105 _ _ ?_)
          refine hK100 _ _ ?_
          refine cw_seq fun K175 hK176 => ?_
          refine cw_seq fun K177 hK178 => ?_
          refine cw_region fun K179 hK180 => ?_
          refine rw_cons (op_lv (w0 rfl) rfl rfl (lv_loadN T25 rfl rfl rfl (fun j v hv => hB158.cellA hv)) ?_)
          refine rw_cons (op_call (w0 rfl) rfl rfl (rc_call C9 rfl rfl) (BaseValid_i (m + (nlog : Int)) _ (runL xs log).length _ (runL xs log) _ (hO166.rs (fun _ => rfl)) (by omega)) ?_)
          rintro _ w181 ⟨rfl, hch182⟩
          have hsz183 := hch182.size
          replace hRxs := hRxs.ch0 hch182
          replace hRlog := hRlog.ch0 hch182
          replace hB8 := hB8.ch0 hch182
          replace hB15 := hB15.ch0 hch182
          replace hO62 := hO62.ch0 hch182
          replace hB69 := hB69.ch0 hch182
          replace hB90 := hB90.ch0 hch182
          replace hB158 := hB158.ch0 hch182
          replace hO166 := hO166.ch0 hch182
          replace hc := hc.step0 hch182
          refine rw_cons (op_pv (w0 rfl) rfl rfl (pv_not rfl rfl) ?_)
          refine rw_nil (hK180 _ _ ?_)
          refine hK178 _ _ ?_
          refine cw_cond rfl (fun h184 => ?_) (fun h184 => ?_)
          · -- then
            replace h184 := not_t h184
            replace h184 := dec_f h184
            refine cw_seq fun K185 hK186 => ?_
            refine cw_region fun K187 hK188 => ?_
            refine rw_cons (op_pv (w0 rfl) rfl rfl (pv_build rfl rfl (B25 )) ?_)
            refine rw_cons (op_store_blk T25 hB15 (w0 rfl) rfl rfl rfl rfl rfl (one_all rfl) (Nat.le_of_ble_eq_true rfl) ?_)
            rintro w189 hB191 hch190
            have hsz192 := hch190.size
            replace hRxs := hRxs.ch hch190 (off1 (by omega))
            replace hRlog := hRlog.ch hch190 (off1 (by omega))
            replace hB8 := hB8.ch hch190 (by simp; omega)
            replace hO62 := hO62.ch hch190 (fun s hs => by first | (have := hO62.off s hs; simp; omega) | (have := hub64 s hs; simp; omega))
            replace hB69 := hB69.ch hch190 (by simp; omega)
            replace hB90 := hB90.ch hch190 (by simp; omega)
            replace hB158 := hB158.ch hch190 (by simp; omega)
            replace hO166 := hO166.ch hch190 (fun s hs => by first | (have := hO166.off s hs; simp; omega) | (have := hub169 s hs; simp; omega))
            replace hc := (off1 (by omega)).step hc hch190
            replace hB15 : Blk w189 g13 25 [(.int .i64 0), (.slice none 0 0)] := hB191
            clear hB191
            refine rw_cons (op_pv (w0 rfl) rfl rfl (pv_assign (v := (.bool false)) rfl rfl) ?_)
            refine rw_nil (hK188 _ _ ?_)
            refine hK186 _ _ ?_
            refine cw_ret ?_
            refine finCT T25 rfl rfl rfl (fun j v hv => hB15.cellA hv) ?_
            have hno : ¬RunOK m xs log := by rintro ⟨h1, h2, h3⟩; rw [hlenlog] at h3; first | contradiction | exact absurd h3 (by assumption)
            have he_1 : ([] : List Int) = runV m xs log := (runV_no hno).symm
            exact ⟨_, _, tup2 (agg2 (iv (runM_no hno).symm) (sl_as (Own.nil encI 1 w189 w.heap.size 3) he_1)) (bvf hno), own_as ((Own.nil encI 1 w189 w.heap.size 3).less (by omega)) he_1, hc⟩
          · -- else
            replace h184 := not_f h184
            replace h184 := dec_t h184
            refine cw_skip ?_
            refine hK176 _ _ ?_
            refine cw_seq fun K193 hK194 => ?_
            refine cw_region fun K195 hK196 => ?_
            refine rw_cons (op_lv (w0 rfl) rfl rfl (lv_loadN T25 rfl rfl rfl (fun j v hv => hB158.cellA hv)) ?_)
            refine rw_cons (op_store_blk T25 hB15 (w0 rfl) rfl rfl rfl rfl rfl (one_all rfl) (Nat.le_of_ble_eq_true rfl) ?_)
            rintro w197 hB199 hch198
            have hsz200 := hch198.size
            replace hRxs := hRxs.ch hch198 (off1 (by omega))
            replace hRlog := hRlog.ch hch198 (off1 (by omega))
            replace hB8 := hB8.ch hch198 (by simp; omega)
            replace hO62 := hO62.ch hch198 (fun s hs => by first | (have := hO62.off s hs; simp; omega) | (have := hub64 s hs; simp; omega))
            replace hB69 := hB69.ch hch198 (by simp; omega)
            replace hB90 := hB90.ch hch198 (by simp; omega)
            replace hB158 := hB158.ch hch198 (by simp; omega)
            replace hO166 := hO166.ch hch198 (fun s hs => by first | (have := hO166.off s hs; simp; omega) | (have := hub169 s hs; simp; omega))
            replace hc := (off1 (by omega)).step hc hch198
            replace hB15 : Blk w197 g13 25 [(.int .i64 (m + (nlog : Int))), (.slice A164 (runL xs log).length c165)] := hB199
            clear hB199
            refine rw_cons (op_pv (w0 rfl) rfl rfl (pv_assign (v := (.bool true)) rfl rfl) ?_)
            refine rw_nil (hK196 _ _ ?_)
            refine hK194 _ _ ?_
            refine cw_ret ?_
            refine finCT T25 rfl rfl rfl (fun j v hv => hB15.cellA hv) ?_
            have hyes : RunOK m xs log := ⟨by assumption, by assumption, by rw [hlenlog]; assumption⟩
            have he_1 : (runL xs log) = runV m xs log := (runV_yes hyes).symm
            exact ⟨_, _, tup2 (agg2 (iv (by rw [runM_yes hyes, hlenlog])) (sl_as hO166 he_1)) (bvt hyes), own_as (hO166.less (by omega)) he_1, hc⟩
      · -- first 6
        refine  (op_alloc T62 (w0 rfl) rfl rfl rfl ?_)
        rintro g202 w201 hg205 hg206 hB204 hch203
        have hsz207 := hch203.size
        replace hRxs := hRxs.ch0 hch203
        replace hRlog := hRlog.ch0 hch203
        replace hB8 := hB8.ch0 hch203
        replace hB15 := hB15.ch0 hch203
        replace hc := hc.step0 hch203
        replace hr57 := hr57.step0 hch203
        replace hB204 : Blk w201 g202 62 [(.int .i64 0), (.pointer none)] := hB204
        refine ⟨fun _ => hr57, ?_⟩
        refine tw_one rfl (op_call (w0 rfl) rfl rfl (rc_call C36 rfl rfl) (stateFrom_ok _ _ _ xs _ (hRxs.more (by omega)) (by omega)) ?_)
        rintro _ w208 ⟨g209, rfl, hg210, hO211, hch212⟩
        have hsz214 := hch212.size
        replace hRxs := hRxs.ch0 hch212
        replace hRlog := hRlog.ch0 hch212
        replace hB8 := hB8.ch0 hch212
        replace hB15 := hB15.ch0 hch212
        replace hB204 := hB204.ch0 hch212
        replace hc := hc.step0 hch212
        replace hr57 := hr57.step0 hch212
        have hub213 := hO211.lt
        refine ⟨fun _ => hr57, ?_⟩
        refine tw_free rfl (w0 rfl) rfl rfl (fun u hu => (pv_build rfl rfl (B62_0I_1P _ _) : PV _ _ _ _) u) ?_
        refine tw_one rfl (op_store_blk T62 hB204 (w0 rfl) rfl rfl rfl rfl rfl (one_all rfl) (Nat.le_of_ble_eq_true rfl) ?_)
        rintro w215 hB217 hch216
        have hsz218 := hch216.size
        replace hRxs := hRxs.ch hch216 (off1 (by omega))
        replace hRlog := hRlog.ch hch216 (off1 (by omega))
        replace hB8 := hB8.ch hch216 (by simp; omega)
        replace hB15 := hB15.ch hch216 (by simp; omega)
        replace hO211 := hO211.ch hch216 (fun s hs => by first | (have := hO211.off s hs; simp; omega) | (have := hub213 s hs; simp; omega))
        replace hc := (off1 (by omega)).step hc hch216
        clear hr57
        replace hB204 : Blk w215 g202 62 [(.int .i64 m), (.pointer (some (⟨g209, 0, none⟩)))] := hB217
        clear hB217
        refine ⟨fun h => (by cases h), ?_⟩
        clear hB15_r
        clear hB8_r
        clear hRlog_r
        clear hRxs_r
        refine tw_done (hK56 _ _ ?_)
        refine hK51 _ _ ?_
        refine cw_seq fun K219 hK220 => ?_
        refine cw_region fun K221 hK222 => ?_
        refine rw_cons (op_lv (w0 rfl) rfl rfl (lv_loadN T62 rfl rfl rfl (fun j v hv => hB204.cellA hv)) ?_)
        refine rw_cons (op_pv (w0 rfl) rfl rfl (pv_move (v := (.slice Alog nlog clog)) rfl rfl) ?_)
        refine rw_cons (op_call (w0 rfl) rfl rfl (rc_call C37 rfl rfl) (after_ok _ _ _ m _ nlog _ log _ hO211 (hRlog.more (by omega)) (by omega) (fun j hj => ((‹LogOK log›).2 j hj).1) (by omega) (by omega)) ?_)
        rintro _ w223 ⟨rfl, hO224, hch225⟩
        have hsz226 := hch225.size
        replace hRxs := hRxs.ch hch225 (hO211.off.le (by omega))
        replace hRlog := hRlog.ch hch225 (hO211.off.le (by omega))
        replace hB8 := hB8.ch hch225 (by first | (refine hO211.off.not ?_; omega) | (intro hs; have := hub213 _ hs; omega))
        replace hB15 := hB15.ch hch225 (by first | (refine hO211.off.not ?_; omega) | (intro hs; have := hub213 _ hs; omega))
        replace hB204 := hB204.ch hch225 (by first | (refine hO211.off.not ?_; omega) | (intro hs; have := hub213 _ hs; omega))
        replace hc := (hO211.off.le (by omega)).step hc hch225
        clear hO211; have hO211 := hO224; clear hO224
        have hrl227 := runL_len log xs
        refine rw_cons (op_alloc T62 (w0 rfl) rfl rfl rfl ?_)
        rintro g229 w228 hg232 hg233 hB231 hch230
        have hsz234 := hch230.size
        replace hRxs := hRxs.ch0 hch230
        replace hRlog := hRlog.ch0 hch230
        replace hB8 := hB8.ch0 hch230
        replace hB15 := hB15.ch0 hch230
        replace hB204 := hB204.ch0 hch230
        replace hO211 := hO211.ch0 hch230
        replace hc := hc.step0 hch230
        replace hB231 : Blk w228 g229 62 [(.int .i64 0), (.pointer none)] := hB231
        have hdj235 : ∀ s ∈ obl (.slice (some ⟨g209, 0, none⟩) 5 5), s ≠ g229 := fun s hs => by have := hub213 s hs; omega
        refine rw_cons (op_store_blk T62 hB231 (w0 rfl) rfl rfl rfl rfl rfl (one_all rfl) (Nat.le_of_ble_eq_true rfl) ?_)
        rintro w236 hB238 hch237
        have hsz239 := hch237.size
        replace hRxs := hRxs.ch hch237 (off1 (by omega))
        replace hRlog := hRlog.ch hch237 (off1 (by omega))
        replace hB8 := hB8.ch hch237 (by simp; omega)
        replace hB15 := hB15.ch hch237 (by simp; omega)
        replace hB204 := hB204.ch hch237 (by simp; omega)
        replace hO211 := hO211.ch hch237 (fun s hs => by have := dj_asg hdj235 s hs; simpa using this)
        replace hc := (off1 (by omega)).step hc hch237
        replace hB231 : Blk w236 g229 62 [(.int .i64 (m + (nlog : Int))), (.pointer (some (⟨g209, 0, none⟩)))] := hB238
        clear hB238
        refine rw_nil (hK222 _ _ ?_)
        refine hK220 _ _ ?_
        refine cw_seq fun K240 hK241 => ?_
        refine cw_drawn (fun u => Ch [] w236 u) (.free 0 (.free 1 (.free 2 (.free 3 (.two 4 true (.free 5 (.one 6 true (.one 7 false (.done)))) 6 true (.one 4 true (.free 5 (.one 7 false (.done))))))))) (by kernel_rfl) (by kernel_rfl) (Ch.refl _ _).drew fun K245 hK246 => ?_
        obtain ⟨w242, hw_, hch243, hsz244⟩ : ∃ w1 : World, w1 = w236.drew ∧ Ch [] w236 w1 ∧ w1.heap.size = w236.heap.size := ⟨_, rfl, (Ch.refl _ _).drew, rfl⟩
        rw [← hw_]; clear hw_
        have hr247 : Ch [] w236 w242 := hch243.sub (fun s hs => by cases hs)
        have hRxs_r := hRxs
        have hRlog_r := hRlog
        have hB8_r := hB8
        have hB15_r := hB15
        have hB204_r := hB204
        have hO211_r := hO211
        have hB231_r := hB231
        have hsz248 := hch243.size
        replace hRxs := hRxs.ch0 hch243
        replace hRlog := hRlog.ch0 hch243
        replace hB8 := hB8.ch0 hch243
        replace hB15 := hB15.ch0 hch243
        replace hB204 := hB204.ch0 hch243
        replace hO211 := hO211.ch0 hch243
        replace hB231 := hB231.ch0 hch243
        replace hc := hc.step0 hch243
        refine tw_free rfl (w0 rfl) rfl rfl (fun u hu => (pv_fld F62_0 rfl rfl : PV _ _ _ _) u) ?_
        refine tw_free rfl (w0 rfl) rfl rfl (fun u hu => lv_load T3 rfl rfl ((hB231_r.ch hu (by simp)).cellA (i := 0) rfl)) ?_
        refine tw_free rfl (w0 rfl) rfl rfl (fun u hu => (pv_fld F62_1 rfl rfl : PV _ _ _ _) u) ?_
        refine tw_free rfl (w0 rfl) rfl rfl (fun u hu => lv_load T59 rfl rfl ((hB231_r.ch hu (by simp)).cellA (i := 1) rfl)) ?_
        refine tw_two rfl rfl ?_ ?_
        · -- first 4
          refine  (op_call (w0 rfl) rfl rfl (rc_call C40 rfl rfl) (stlist_ok _ _ _ _ hO211) ?_)
          rintro _ w249 ⟨A250, c251, rfl, hO252, hch253⟩
          have hsz254 := hch253.size
          replace hRxs := hRxs.ch0 hch253
          replace hRlog := hRlog.ch0 hch253
          replace hB8 := hB8.ch0 hch253
          replace hB15 := hB15.ch0 hch253
          replace hB204 := hB204.ch0 hch253
          replace hO211 := hO211.ch0 hch253
          replace hB231 := hB231.ch0 hch253
          replace hc := hc.step0 hch253
          replace hr247 := hr247.step0 hch253
          have hub255 := hO252.lt
          have hcap256 : (runL xs log).length ≤ c251 := by obtain ⟨_, _, hv, h1, _⟩ := hO252.form; injection hv with _ _ h3; omega
          refine ⟨fun _ => hr247, ?_⟩
          refine tw_free rfl (w0 rfl) rfl rfl (fun u hu => (pv_build rfl rfl (B25_0I_1SL _ _ _ _) : PV _ _ _ _) u) ?_
          refine tw_one rfl (op_alloc T25 (w0 rfl) rfl rfl rfl ?_)
          rintro g258 w257 hg261 hg262 hB260 hch259
          have hsz263 := hch259.size
          replace hRxs := hRxs.ch0 hch259
          replace hRlog := hRlog.ch0 hch259
          replace hB8 := hB8.ch0 hch259
          replace hB15 := hB15.ch0 hch259
          replace hB204 := hB204.ch0 hch259
          replace hO211 := hO211.ch0 hch259
          replace hB231 := hB231.ch0 hch259
          replace hO252 := hO252.ch0 hch259
          replace hc := hc.step0 hch259
          replace hr247 := hr247.step0 hch259
          replace hB260 : Blk w257 g258 25 [(.int .i64 0), (.slice none 0 0)] := hB260
          have hdj264 : ∀ s ∈ obl (.slice (some ⟨g209, 0, none⟩) 5 5), s ≠ g258 := fun s hs => by have := hub213 s hs; omega
          have hdj265 : ∀ s ∈ obl (.slice A250 (runL xs log).length c251), s ≠ g258 := fun s hs => by have := hub255 s hs; omega
          refine ⟨fun _ => hr247, ?_⟩
          refine tw_one rfl (op_store_blk T25 hB260 (w0 rfl) rfl rfl rfl rfl rfl (one_all rfl) (Nat.le_of_ble_eq_true rfl) ?_)
          rintro w266 hB268 hch267
          have hsz269 := hch267.size
          replace hRxs := hRxs.ch hch267 (off1 (by omega))
          replace hRlog := hRlog.ch hch267 (off1 (by omega))
          replace hB8 := hB8.ch hch267 (by simp; omega)
          replace hB15 := hB15.ch hch267 (by simp; omega)
          replace hB204 := hB204.ch hch267 (by simp; omega)
          replace hO211 := hO211.ch hch267 (fun s hs => by have := dj_asg hdj264 s hs; simpa using this)
          replace hB231 := hB231.ch hch267 (by simp; omega)
          replace hO252 := hO252.ch hch267 (fun s hs => by have := dj_asg hdj265 s hs; simpa using this)
          replace hc := (off1 (by omega)).step hc hch267
          clear hr247
          replace hB260 : Blk w266 g258 25 [(.int .i64 (m + (nlog : Int))), (.slice A250 (runL xs log).length c251)] := hB268
          clear hB268
          refine ⟨fun h => (by cases h), ?_⟩
          clear hB15_r
          clear hB204_r
          clear hB231_r
          clear hB8_r
          clear hO211_r
          clear hRlog_r
          clear hRxs_r
          refine tw_done (hK246 _ _ ?_)
          refine hK241 _ _ ?_
          refine cw_seq fun K270 hK271 => ?_
          refine cw_seq fun K272 hK273 => ?_
          refine cw_region fun K274 hK275 => ?_
          refine rw_cons (op_lv (w0 rfl) rfl rfl (lv_loadN T25 rfl rfl rfl (fun j v hv => hB260.cellA hv)) ?_)
          refine rw_cons (op_call (w0 rfl) rfl rfl (rc_call C9 rfl rfl) (BaseValid_i (m + (nlog : Int)) _ (runL xs log).length _ (runL xs log) _ (hO252.rs (fun _ => rfl)) (by omega)) ?_)
          rintro _ w276 ⟨rfl, hch277⟩
          have hsz278 := hch277.size
          replace hRxs := hRxs.ch0 hch277
          replace hRlog := hRlog.ch0 hch277
          replace hB8 := hB8.ch0 hch277
          replace hB15 := hB15.ch0 hch277
          replace hB204 := hB204.ch0 hch277
          replace hO211 := hO211.ch0 hch277
          replace hB231 := hB231.ch0 hch277
          replace hO252 := hO252.ch0 hch277
          replace hB260 := hB260.ch0 hch277
          replace hc := hc.step0 hch277
          refine rw_cons (op_pv (w0 rfl) rfl rfl (pv_not rfl rfl) ?_)
          refine rw_nil (hK275 _ _ ?_)
          refine hK273 _ _ ?_
          refine cw_cond rfl (fun h279 => ?_) (fun h279 => ?_)
          · -- then
            replace h279 := not_t h279
            replace h279 := dec_f h279
            refine cw_seq fun K280 hK281 => ?_
            refine cw_region fun K282 hK283 => ?_
            refine rw_cons (op_pv (w0 rfl) rfl rfl (pv_build rfl rfl (B25 )) ?_)
            refine rw_cons (op_store_blk T25 hB15 (w0 rfl) rfl rfl rfl rfl rfl (one_all rfl) (Nat.le_of_ble_eq_true rfl) ?_)
            rintro w284 hB286 hch285
            have hsz287 := hch285.size
            replace hRxs := hRxs.ch hch285 (off1 (by omega))
            replace hRlog := hRlog.ch hch285 (off1 (by omega))
            replace hB8 := hB8.ch hch285 (by simp; omega)
            replace hB204 := hB204.ch hch285 (by simp; omega)
            replace hO211 := hO211.ch hch285 (fun s hs => by first | (have := hO211.off s hs; simp; omega) | (have := hub213 s hs; simp; omega))
            replace hB231 := hB231.ch hch285 (by simp; omega)
            replace hO252 := hO252.ch hch285 (fun s hs => by first | (have := hO252.off s hs; simp; omega) | (have := hub255 s hs; simp; omega))
            replace hB260 := hB260.ch hch285 (by simp; omega)
            replace hc := (off1 (by omega)).step hc hch285
            replace hB15 : Blk w284 g13 25 [(.int .i64 0), (.slice none 0 0)] := hB286
            clear hB286
            refine rw_cons (op_pv (w0 rfl) rfl rfl (pv_assign (v := (.bool false)) rfl rfl) ?_)
            refine rw_nil (hK283 _ _ ?_)
            refine hK281 _ _ ?_
            refine cw_ret ?_
            refine finCT T25 rfl rfl rfl (fun j v hv => hB15.cellA hv) ?_
            have hno : ¬RunOK m xs log := by rintro ⟨h1, h2, h3⟩; rw [hlenlog] at h3; first | contradiction | exact absurd h3 (by assumption)
            have he_1 : ([] : List Int) = runV m xs log := (runV_no hno).symm
            exact ⟨_, _, tup2 (agg2 (iv (runM_no hno).symm) (sl_as (Own.nil encI 1 w284 w.heap.size 3) he_1)) (bvf hno), own_as ((Own.nil encI 1 w284 w.heap.size 3).less (by omega)) he_1, hc⟩
          · -- else
            replace h279 := not_f h279
            replace h279 := dec_t h279
            refine cw_skip ?_
            refine hK271 _ _ ?_
            refine cw_seq fun K288 hK289 => ?_
            refine cw_region fun K290 hK291 => ?_
            refine rw_cons (op_lv (w0 rfl) rfl rfl (lv_loadN T25 rfl rfl rfl (fun j v hv => hB260.cellA hv)) ?_)
            refine rw_cons (op_store_blk T25 hB15 (w0 rfl) rfl rfl rfl rfl rfl (one_all rfl) (Nat.le_of_ble_eq_true rfl) ?_)
            rintro w292 hB294 hch293
            have hsz295 := hch293.size
            replace hRxs := hRxs.ch hch293 (off1 (by omega))
            replace hRlog := hRlog.ch hch293 (off1 (by omega))
            replace hB8 := hB8.ch hch293 (by simp; omega)
            replace hB204 := hB204.ch hch293 (by simp; omega)
            replace hO211 := hO211.ch hch293 (fun s hs => by first | (have := hO211.off s hs; simp; omega) | (have := hub213 s hs; simp; omega))
            replace hB231 := hB231.ch hch293 (by simp; omega)
            replace hO252 := hO252.ch hch293 (fun s hs => by first | (have := hO252.off s hs; simp; omega) | (have := hub255 s hs; simp; omega))
            replace hB260 := hB260.ch hch293 (by simp; omega)
            replace hc := (off1 (by omega)).step hc hch293
            replace hB15 : Blk w292 g13 25 [(.int .i64 (m + (nlog : Int))), (.slice A250 (runL xs log).length c251)] := hB294
            clear hB294
            refine rw_cons (op_pv (w0 rfl) rfl rfl (pv_assign (v := (.bool true)) rfl rfl) ?_)
            refine rw_nil (hK291 _ _ ?_)
            refine hK289 _ _ ?_
            refine cw_ret ?_
            refine finCT T25 rfl rfl rfl (fun j v hv => hB15.cellA hv) ?_
            have hyes : RunOK m xs log := ⟨by assumption, by assumption, by rw [hlenlog]; assumption⟩
            have he_1 : (runL xs log) = runV m xs log := (runV_yes hyes).symm
            exact ⟨_, _, tup2 (agg2 (iv (by rw [runM_yes hyes, hlenlog])) (sl_as hO252 he_1)) (bvt hyes), own_as (hO252.less (by omega)) he_1, hc⟩
        · -- first 6
          refine  (op_alloc T25 (w0 rfl) rfl rfl rfl ?_)
          rintro g297 w296 hg300 hg301 hB299 hch298
          have hsz302 := hch298.size
          replace hRxs := hRxs.ch0 hch298
          replace hRlog := hRlog.ch0 hch298
          replace hB8 := hB8.ch0 hch298
          replace hB15 := hB15.ch0 hch298
          replace hB204 := hB204.ch0 hch298
          replace hO211 := hO211.ch0 hch298
          replace hB231 := hB231.ch0 hch298
          replace hc := hc.step0 hch298
          replace hr247 := hr247.step0 hch298
          replace hB299 : Blk w296 g297 25 [(.int .i64 0), (.slice none 0 0)] := hB299
          have hdj303 : ∀ s ∈ obl (.slice (some ⟨g209, 0, none⟩) 5 5), s ≠ g297 := fun s hs => by have := hub213 s hs; omega
          refine ⟨fun _ => hr247, ?_⟩
          refine tw_one rfl (op_call (w0 rfl) rfl rfl (rc_call C40 rfl rfl) (stlist_ok _ _ _ _ hO211) ?_)
          rintro _ w304 ⟨A305, c306, rfl, hO307, hch308⟩
          have hsz309 := hch308.size
          replace hRxs := hRxs.ch0 hch308
          replace hRlog := hRlog.ch0 hch308
          replace hB8 := hB8.ch0 hch308
          replace hB15 := hB15.ch0 hch308
          replace hB204 := hB204.ch0 hch308
          replace hO211 := hO211.ch0 hch308
          replace hB231 := hB231.ch0 hch308
          replace hB299 := hB299.ch0 hch308
          replace hc := hc.step0 hch308
          replace hr247 := hr247.step0 hch308
          have hub310 := hO307.lt
          have hcap311 : (runL xs log).length ≤ c306 := by obtain ⟨_, _, hv, h1, _⟩ := hO307.form; injection hv with _ _ h3; omega
          refine ⟨fun _ => hr247, ?_⟩
          refine tw_free rfl (w0 rfl) rfl rfl (fun u hu => (pv_build rfl rfl (B25_0I_1SL _ _ _ _) : PV _ _ _ _) u) ?_
          refine tw_one rfl (op_store_blk T25 hB299 (w0 rfl) rfl rfl rfl rfl rfl (one_all rfl) (Nat.le_of_ble_eq_true rfl) ?_)
          rintro w312 hB314 hch313
          have hsz315 := hch313.size
          replace hRxs := hRxs.ch hch313 (off1 (by omega))
          replace hRlog := hRlog.ch hch313 (off1 (by omega))
          replace hB8 := hB8.ch hch313 (by simp; omega)
          replace hB15 := hB15.ch hch313 (by simp; omega)
          replace hB204 := hB204.ch hch313 (by simp; omega)
          replace hO211 := hO211.ch hch313 (fun s hs => by have := dj_asg hdj303 s hs; simpa using this)
          replace hB231 := hB231.ch hch313 (by simp; omega)
          replace hO307 := hO307.ch hch313 (fun s hs => by first | (have := hO307.off s hs; simp; omega) | (have := hub310 s hs; simp; omega))
          replace hc := (off1 (by omega)).step hc hch313
          clear hr247
          replace hB299 : Blk w312 g297 25 [(.int .i64 (m + (nlog : Int))), (.slice A305 (runL xs log).length c306)] := hB314
          clear hB314
          refine ⟨fun h => (by cases h), ?_⟩
          clear hB15_r
          clear hB204_r
          clear hB231_r
          clear hB8_r
          clear hO211_r
          clear hRlog_r
          clear hRxs_r
          refine tw_done (hK246 _ _ ?_)
          refine hK241 _ _ ?_
          refine cw_seq fun K316 hK317 => ?_
          refine cw_seq fun K318 hK319 => ?_
          refine cw_region fun K320 hK321 => ?_
          refine rw_cons (op_lv (w0 rfl) rfl rfl (lv_loadN T25 rfl rfl rfl (fun j v hv => hB299.cellA hv)) ?_)
          refine rw_cons (op_call (w0 rfl) rfl rfl (rc_call C9 rfl rfl) (BaseValid_i (m + (nlog : Int)) _ (runL xs log).length _ (runL xs log) _ (hO307.rs (fun _ => rfl)) (by omega)) ?_)
          rintro _ w322 ⟨rfl, hch323⟩
          have hsz324 := hch323.size
          replace hRxs := hRxs.ch0 hch323
          replace hRlog := hRlog.ch0 hch323
          replace hB8 := hB8.ch0 hch323
          replace hB15 := hB15.ch0 hch323
          replace hB204 := hB204.ch0 hch323
          replace hO211 := hO211.ch0 hch323
          replace hB231 := hB231.ch0 hch323
          replace hB299 := hB299.ch0 hch323
          replace hO307 := hO307.ch0 hch323
          replace hc := hc.step0 hch323
          refine rw_cons (op_pv (w0 rfl) rfl rfl (pv_not rfl rfl) ?_)
          refine rw_nil (hK321 _ _ ?_)
          refine hK319 _ _ ?_
          refine cw_cond rfl (fun h325 => ?_) (fun h325 => ?_)
          · -- then
            replace h325 := not_t h325
            replace h325 := dec_f h325
            refine cw_seq fun K326 hK327 => ?_
            refine cw_region fun K328 hK329 => ?_
            refine rw_cons (op_pv (w0 rfl) rfl rfl (pv_build rfl rfl (B25 )) ?_)
            refine rw_cons (op_store_blk T25 hB15 (w0 rfl) rfl rfl rfl rfl rfl (one_all rfl) (Nat.le_of_ble_eq_true rfl) ?_)
            rintro w330 hB332 hch331
            have hsz333 := hch331.size
            replace hRxs := hRxs.ch hch331 (off1 (by omega))
            replace hRlog := hRlog.ch hch331 (off1 (by omega))
            replace hB8 := hB8.ch hch331 (by simp; omega)
            replace hB204 := hB204.ch hch331 (by simp; omega)
            replace hO211 := hO211.ch hch331 (fun s hs => by first | (have := hO211.off s hs; simp; omega) | (have := hub213 s hs; simp; omega))
            replace hB231 := hB231.ch hch331 (by simp; omega)
            replace hB299 := hB299.ch hch331 (by simp; omega)
            replace hO307 := hO307.ch hch331 (fun s hs => by first | (have := hO307.off s hs; simp; omega) | (have := hub310 s hs; simp; omega))
            replace hc := (off1 (by omega)).step hc hch331
            replace hB15 : Blk w330 g13 25 [(.int .i64 0), (.slice none 0 0)] := hB332
            clear hB332
            refine rw_cons (op_pv (w0 rfl) rfl rfl (pv_assign (v := (.bool false)) rfl rfl) ?_)
            refine rw_nil (hK329 _ _ ?_)
            refine hK327 _ _ ?_
            refine cw_ret ?_
            refine finCT T25 rfl rfl rfl (fun j v hv => hB15.cellA hv) ?_
            have hno : ¬RunOK m xs log := by rintro ⟨h1, h2, h3⟩; rw [hlenlog] at h3; first | contradiction | exact absurd h3 (by assumption)
            have he_1 : ([] : List Int) = runV m xs log := (runV_no hno).symm
            exact ⟨_, _, tup2 (agg2 (iv (runM_no hno).symm) (sl_as (Own.nil encI 1 w330 w.heap.size 3) he_1)) (bvf hno), own_as ((Own.nil encI 1 w330 w.heap.size 3).less (by omega)) he_1, hc⟩
          · -- else
            replace h325 := not_f h325
            replace h325 := dec_t h325
            refine cw_skip ?_
            refine hK317 _ _ ?_
            refine cw_seq fun K334 hK335 => ?_
            refine cw_region fun K336 hK337 => ?_
            refine rw_cons (op_lv (w0 rfl) rfl rfl (lv_loadN T25 rfl rfl rfl (fun j v hv => hB299.cellA hv)) ?_)
            refine rw_cons (op_store_blk T25 hB15 (w0 rfl) rfl rfl rfl rfl rfl (one_all rfl) (Nat.le_of_ble_eq_true rfl) ?_)
            rintro w338 hB340 hch339
            have hsz341 := hch339.size
            replace hRxs := hRxs.ch hch339 (off1 (by omega))
            replace hRlog := hRlog.ch hch339 (off1 (by omega))
            replace hB8 := hB8.ch hch339 (by simp; omega)
            replace hB204 := hB204.ch hch339 (by simp; omega)
            replace hO211 := hO211.ch hch339 (fun s hs => by first | (have := hO211.off s hs; simp; omega) | (have := hub213 s hs; simp; omega))
            replace hB231 := hB231.ch hch339 (by simp; omega)
            replace hB299 := hB299.ch hch339 (by simp; omega)
            replace hO307 := hO307.ch hch339 (fun s hs => by first | (have := hO307.off s hs; simp; omega) | (have := hub310 s hs; simp; omega))
            replace hc := (off1 (by omega)).step hc hch339
            replace hB15 : Blk w338 g13 25 [(.int .i64 (m + (nlog : Int))), (.slice A305 (runL xs log).length c306)] := hB340
            clear hB340
            refine rw_cons (op_pv (w0 rfl) rfl rfl (pv_assign (v := (.bool true)) rfl rfl) ?_)
            refine rw_nil (hK337 _ _ ?_)
            refine hK335 _ _ ?_
            refine cw_ret ?_
            refine finCT T25 rfl rfl rfl (fun j v hv => hB15.cellA hv) ?_
            have hyes : RunOK m xs log := ⟨by assumption, by assumption, by rw [hlenlog]; assumption⟩
            have he_1 : (runL xs log) = runV m xs log := (runV_yes hyes).symm
            exact ⟨_, _, tup2 (agg2 (iv (by rw [runM_yes hyes, hlenlog])) (sl_as hO307 he_1)) (bvt hyes), own_as (hO307.less (by omega)) he_1, hc⟩
end Go.Proofs.Ytpnenfglogggmaa

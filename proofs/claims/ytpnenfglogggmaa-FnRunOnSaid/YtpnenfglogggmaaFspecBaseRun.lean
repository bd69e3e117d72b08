/-
  The walk of spec.BaseRun, written by program: each line names the law of one operation. Conditions: those of the theorem.
-/
import Derived.Test.YtpnenfglogggmaaProg
import Derived.Test.YtpnenfglogggmaaBase
import Derived.Test.YtpnenfglogggmaaArr
import Derived.Test.YtpnenfglogggmaaFspecBaseValid
import Derived.Test.YtpnenfglogggmaaFspecLogValid
import Derived.KernelRfl
namespace Go.Proofs.Ytpnenfglogggmaa
open Go Go.RowKit
set_option linter.unusedVariables false
set_option linter.unusedSimpArgs false
namespace BaseRun_sF
theorem T3 : TI Try.prog 3 false (.int .i64 0) 1 8 := TI.mk' Try.underlying3 rfl (by kernel_rfl)
theorem T23 : TI Try.prog 23 false (.slice none 0 0) 1 24 := TI.mk' Try.underlying23 rfl (by kernel_rfl)
theorem T25 : TI Try.prog 25 true (.agg #[.int .i64 0, .slice none 0 0]) 2 32 := TI.mk' Try.underlying25 rfl (by kernel_rfl)
theorem T65 : TI Try.prog 65 true (.agg #[.int .i64 0, .int .i64 0]) 2 16 := TI.mk' Try.underlying65 rfl (by kernel_rfl)
theorem F25_0 : FldOK Try.prog 25 0 0 := ⟨_, _, 0, Try.underlying25, rfl, rfl, by kernel_rfl⟩
theorem F25_1 : FldOK Try.prog 25 1 1 := ⟨_, _, 0, Try.underlying25, rfl, rfl, by kernel_rfl⟩
theorem F65_0 : FldOK Try.prog 65 0 0 := ⟨_, _, 0, Try.underlying65, rfl, rfl, by kernel_rfl⟩
theorem F65_1 : FldOK Try.prog 65 1 1 := ⟨_, _, 0, Try.underlying65, rfl, rfl, by kernel_rfl⟩
theorem C10 : Callable Try.prog 10 := ⟨_, Try.func10, by kernel_rfl, by kernel_rfl⟩
theorem C41 : Callable Try.prog 41 := ⟨_, Try.func41, by kernel_rfl, by kernel_rfl⟩
theorem B25  (u : World) : (Instr.build 25 #[]).run Try.prog u = .ok (.agg #[.int .i64 0, .slice none 0 0]) u := by kernel_rfl
theorem B25_0I_1SL (a0 : Int) (a1 : Option Addr) (n1 c1 : Nat) (u : World) : (Instr.build 25 #[(0, .int .i64 a0), (1, .slice a1 n1 c1)]).run Try.prog u = .ok (.agg #[.int .i64 a0, .slice a1 n1 c1]) u := by kernel_rfl
end BaseRun_sF
open BaseRun_sF in
set_option maxHeartbeats 4000000 in
theorem BaseRun_s (m : Int) (Axs : Option Addr) (nxs cxs : Nat) (xs : List Int) (Alog : Option Addr) (nlog clog : Nat) (log : List Bt) (w : World) (hRxs : RS encI 1 w w.heap.size Axs nxs xs) (hNxs : nxs ≤ 1099511627776) (hRlog : RS encB 2 w w.heap.size Alog nlog log) (hNlog : nlog ≤ 1099511627776) :
    Fn Try.prog 16 [(.agg #[(.int .i64 m), (.slice Axs nxs cxs)]), (.slice Alog nlog clog)] w fun v w' => ∃ A_1 c_1, v = .tuple #[.agg #[.int .i64 (runM m xs log), .slice A_1 (runV m xs log).length c_1], .bool (dec (RunOK m xs log))] ∧ Own encI 1 w' w.heap.size 3 (.slice A_1 (runV m xs log).length c_1) (runV m xs log) ∧ Ch [] w w' := by
  have hlenxs := hRxs.len
  have hlenlog := hRlog.len
  refine fn_of (n := 51) Try.func16 rfl rfl rfl rfl ?_
  have hc : Ch [] w w := Ch.refl _ _
  refine cw_seq fun K1 hK2 => ?_
  refine cw_region fun K3 hK4 => ?_
  refine rw_cons (op_box (w0 rfl) rfl rfl rfl rfl ?_)
  rintro g6 w5 hg9 hg10 hB8 hch7
  have hsz11 := hch7.size
  replace hRxs := hRxs.ch0 hch7
  replace hRlog := hRlog.ch0 hch7
  replace hc := hc.step0 hch7
  replace hB8 : Blk w5 g6 25 [(.int .i64 m), (.slice Axs nxs cxs)] := hB8
  refine rw_cons (op_alloc T25 (w0 rfl) rfl rfl rfl ?_)
  rintro g13 w12 hg16 hg17 hB15 hch14
  have hsz18 := hch14.size
  replace hRxs := hRxs.ch0 hch14
  replace hRlog := hRlog.ch0 hch14
  replace hB8 := hB8.ch0 hch14
  replace hc := hc.step0 hch14
  replace hB15 : Blk w12 g13 25 [(.int .i64 0), (.slice none 0 0)] := hB15
  refine rw_cons (op_pv (w0 rfl) rfl rfl (pv_assign (v := (.bool false)) rfl rfl) ?_)
  refine rw_nil (hK4 _ _ ?_)
  refine hK2 _ _ ?_
  refine cw_seq fun K19 hK20 => ?_
  refine cw_seq fun K21 hK22 => ?_
  refine cw_region fun K23 hK24 => ?_
  refine rw_cons (op_lv (w0 rfl) rfl rfl (lv_loadN T25 rfl rfl rfl (fun j v hv => hB8.cellA hv)) ?_)
  refine rw_cons (op_call (w0 rfl) rfl rfl (rc_call C10 rfl rfl) (BaseValid_s m _ nxs _ xs _ (hRxs.more (by omega)) (by omega)) ?_)
  rintro _ w25 ⟨rfl, hch26⟩
  have hsz27 := hch26.size
  replace hRxs := hRxs.ch0 hch26
  replace hRlog := hRlog.ch0 hch26
  replace hB8 := hB8.ch0 hch26
  replace hB15 := hB15.ch0 hch26
  replace hc := hc.step0 hch26
  refine rw_cons (op_pv (w0 rfl) rfl rfl (pv_not rfl rfl) ?_)
  refine rw_cons (op_pv (w0 rfl) rfl rfl (pv_move (v := (.bool (!(dec (BaseOK m xs))))) rfl rfl) ?_)
  refine rw_split 11 rfl (fun hb28 => ?_) (fun hb28 => ?_)
  · -- yes
    replace hb28 := not_t hb28
    replace hb28 := dec_f hb28
    refine rw_cons (op_pass (w1n2 rfl rfl rfl rfl) rfl rfl ?_)
    refine rw_cons (op_pass (w1n2 rfl rfl rfl rfl) rfl rfl ?_)
    refine rw_cons (op_pass (w1n2 rfl rfl rfl rfl) rfl rfl ?_)
    refine rw_cons (op_pv (w0 rfl) rfl rfl (pv_pickT (v := (.bool true)) rfl rfl rfl) ?_)
    refine rw_nil (hK24 _ _ ?_)
    refine hK22 _ _ ?_
    refine cw_cond rfl (fun h29 => ?_) (fun h29 => ?_)
    · -- then
      clear h29
      refine cw_seq fun K30 hK31 => ?_
      refine cw_region fun K32 hK33 => ?_
      refine rw_cons (op_pv (w0 rfl) rfl rfl (pv_build rfl rfl (B25 )) ?_)
      refine rw_cons (op_store_blk T25 hB15 (w0 rfl) rfl rfl rfl rfl rfl (one_all rfl) (Nat.le_of_ble_eq_true rfl) ?_)
      rintro w34 hB36 hch35
      have hsz37 := hch35.size
      replace hRxs := hRxs.ch hch35 (off1 (by omega))
      replace hRlog := hRlog.ch hch35 (off1 (by omega))
      replace hB8 := hB8.ch hch35 (by simp; omega)
      replace hc := (off1 (by omega)).step hc hch35
      replace hB15 : Blk w34 g13 25 [(.int .i64 0), (.slice none 0 0)] := hB36
      clear hB36
      refine rw_cons (op_pv (w0 rfl) rfl rfl (pv_assign (v := (.bool false)) rfl rfl) ?_)
      refine rw_nil (hK33 _ _ ?_)
      refine hK31 _ _ ?_
      refine cw_ret ?_
      refine finCT T25 rfl rfl rfl (fun j v hv => hB15.cellA hv) ?_
      have hno : ¬RunOK m xs log := by rintro ⟨h1, h2, h3⟩; rw [hlenlog] at h3; first | contradiction | exact absurd h3 (by assumption)
      have he_1 : ([] : List Int) = runV m xs log := (runV_no hno).symm
      exact ⟨_, _, tup2 (agg2 (iv (runM_no hno).symm) (sl_as (Own.nil encI 1 w34 w.heap.size 3) he_1)) (bvf hno), own_as ((Own.nil encI 1 w34 w.heap.size 3).less (by omega)) he_1, hc⟩
    · -- else
      cases h29
  · -- no
    replace hb28 := not_f hb28
    replace hb28 := dec_t hb28
    refine rw_cons (op_pv (w1y rfl rfl rfl rfl) rfl rfl (pv_move (v := (.slice Alog nlog clog)) rfl rfl) ?_)
    refine rw_cons (op_call (w1y rfl rfl rfl rfl) rfl rfl (rc_call C41 rfl rfl) (LogValid_s _ _ _ log _ (hRlog.more (by omega)) (by omega)) ?_)
    rintro _ w38 ⟨rfl, hch39⟩
    have hsz40 := hch39.size
    replace hRxs := hRxs.ch0 hch39
    replace hRlog := hRlog.ch0 hch39
    replace hB8 := hB8.ch0 hch39
    replace hB15 := hB15.ch0 hch39
    replace hc := hc.step0 hch39
    refine rw_cons (op_pv (w1y rfl rfl rfl rfl) rfl rfl (pv_not rfl rfl) ?_)
    refine rw_cons (op_pv (w0 rfl) rfl rfl (pv_pickF (v := (.bool (!(dec (LogOK log))))) rfl rfl rfl) ?_)
    refine rw_nil (hK24 _ _ ?_)
    refine hK22 _ _ ?_
    refine cw_cond rfl (fun h41 => ?_) (fun h41 => ?_)
    · -- then
      replace h41 := not_t h41
      replace h41 := dec_f h41
      refine cw_seq fun K42 hK43 => ?_
      refine cw_region fun K44 hK45 => ?_
      refine rw_cons (op_pv (w0 rfl) rfl rfl (pv_build rfl rfl (B25 )) ?_)
      refine rw_cons (op_store_blk T25 hB15 (w0 rfl) rfl rfl rfl rfl rfl (one_all rfl) (Nat.le_of_ble_eq_true rfl) ?_)
      rintro w46 hB48 hch47
      have hsz49 := hch47.size
      replace hRxs := hRxs.ch hch47 (off1 (by omega))
      replace hRlog := hRlog.ch hch47 (off1 (by omega))
      replace hB8 := hB8.ch hch47 (by simp; omega)
      replace hc := (off1 (by omega)).step hc hch47
      replace hB15 : Blk w46 g13 25 [(.int .i64 0), (.slice none 0 0)] := hB48
      clear hB48
      refine rw_cons (op_pv (w0 rfl) rfl rfl (pv_assign (v := (.bool false)) rfl rfl) ?_)
      refine rw_nil (hK45 _ _ ?_)
      refine hK43 _ _ ?_
      refine cw_ret ?_
      refine finCT T25 rfl rfl rfl (fun j v hv => hB15.cellA hv) ?_
      have hno : ¬RunOK m xs log := by rintro ⟨h1, h2, h3⟩; rw [hlenlog] at h3; first | contradiction | exact absurd h3 (by assumption)
      have he_1 : ([] : List Int) = runV m xs log := (runV_no hno).symm
      exact ⟨_, _, tup2 (agg2 (iv (runM_no hno).symm) (sl_as (Own.nil encI 1 w46 w.heap.size 3) he_1)) (bvf hno), own_as ((Own.nil encI 1 w46 w.heap.size 3).less (by omega)) he_1, hc⟩
    · -- else
      replace h41 := not_f h41
      replace h41 := dec_t h41
      refine cw_skip ?_
      refine hK20 _ _ ?_
      refine cw_seq fun K50 hK51 => ?_
      have hlo := (‹LogOK log›)
      have hl12 := hlo.1
      have hbo := (‹BaseOK m xs›)
      have hm0 := hbo.1
      have hx5 := hbo.2.1.1
      refine cw_drawn (fun u => Ch [] w38 u) (.free 0 (.free 1 (.free 2 (.free 3 (.free 4 (.free 6 (.free 7 (.two 5 true (.two 8 true (.free 9 (.one 10 true (.one 11 false (.done)))) 10 true (.one 8 true (.free 9 (.one 11 false (.done))))) 10 true (.one 5 true (.one 8 true (.free 9 (.one 11 false (.done))))))))))))) (by kernel_rfl) (by kernel_rfl) (Ch.refl _ _).drew fun K55 hK56 => ?_
      obtain ⟨w52, hw_, hch53, hsz54⟩ : ∃ w1 : World, w1 = w38.drew ∧ Ch [] w38 w1 ∧ w1.heap.size = w38.heap.size := ⟨_, rfl, (Ch.refl _ _).drew, rfl⟩
      rw [← hw_]; clear hw_
      have hr57 : Ch [] w38 w52 := hch53.sub (fun s hs => by cases hs)
      have hRxs_r := hRxs
      have hRlog_r := hRlog
      have hB8_r := hB8
      have hB15_r := hB15
      have hsz58 := hch53.size
      replace hRxs := hRxs.ch0 hch53
      replace hRlog := hRlog.ch0 hch53
      replace hB8 := hB8.ch0 hch53
      replace hB15 := hB15.ch0 hch53
      replace hc := hc.step0 hch53
      refine tw_free rfl (w0 rfl) rfl rfl (fun u hu => (pv_fld F25_0 rfl rfl : PV _ _ _ _) u) ?_
      refine tw_free rfl (w0 rfl) rfl rfl (fun u hu => lv_load T3 rfl rfl ((hB8_r.ch hu (by simp)).cellA (i := 0) rfl)) ?_
      refine tw_free rfl (w0 rfl) rfl rfl (fun u hu => (pv_move (v := (.slice Alog nlog clog)) rfl rfl : PV _ _ _ _) u) ?_
      refine tw_free rfl (w0 rfl) rfl rfl (fun u hu => (pv_len Try.underlying34 rfl rfl : PV _ _ _ _) u) ?_
      refine tw_free rfl (w0 rfl) rfl rfl (fun u hu => (pv_add rfl rfl rfl (by omega) (by omega) : PV _ _ _ _) u) ?_
      refine tw_free rfl (w0 rfl) rfl rfl (fun u hu => (pv_fld F25_1 rfl rfl : PV _ _ _ _) u) ?_
      refine tw_free rfl (w0 rfl) rfl rfl (fun u hu => lv_load T23 rfl rfl ((hB8_r.ch hu (by simp)).cellA (i := 1) rfl)) ?_
      refine tw_two rfl rfl ?_ ?_
      · -- first 5
        refine  (op_bslice [] Try.underlying23 T3 (w0 rfl) rfl rfl rfl rfl rfl (by simp [Value.cells]) (by decide) ?_)
        intro g60 w59 hg63 hg64 hK62 hch61
        have hO65 : Own encI 1 w59 w52.heap.size 3 (.slice (some ⟨g60, 0, none⟩) 0 0) ([] : List Int) := Blk.own (xs := ([] : List Int)) hK62 (by omega) rfl (by decide) rfl
        have hsz66 := hch61.size
        replace hRxs := hRxs.ch0 hch61
        replace hRlog := hRlog.ch0 hch61
        replace hB8 := hB8.ch0 hch61
        replace hB15 := hB15.ch0 hch61
        replace hc := hc.step0 hch61
        replace hr57 := hr57.step0 hch61
        have hub67 := hO65.lt
        refine ⟨fun _ => hr57, ?_⟩
        refine tw_two rfl rfl ?_ ?_
        · -- first 8
          refine  (op_append Try.underlying23 T3 (fun _ => rfl) rfl (by decide) (fun _ => one_all rfl) (w0 rfl) rfl rfl rfl rfl rfl hO65 hRxs (by unfold maxLen; first | omega | (simp; omega)) (by first | omega | (simp; omega)) (by omega) ?_)
          rintro v68 w69 hO70 hch71 hs72
          replace hO70 : Own encI 1 w69 w52.heap.size 3 v68 xs := hO70
          have hl73 : xs.length = 0 + nxs := by first | (have hl0 := hRxs.len; omega) | (have hl0 := hRxs.len; simp only [List.length_append, List.length_cons, List.length_nil] at hl0 ⊢; omega) | simp | rfl
          have hsz74 := hch71.size
          replace hRxs := hRxs.ch hch71 (hO65.off.le (by omega))
          replace hRlog := hRlog.ch hch71 (hO65.off.le (by omega))
          replace hB8 := hB8.ch hch71 (by first | (refine hO65.off.not ?_; omega) | (intro hs; have := hub67 _ hs; omega))
          replace hB15 := hB15.ch hch71 (by first | (refine hO65.off.not ?_; omega) | (intro hs; have := hub67 _ hs; omega))
          replace hc := (hO65.off.le (by omega)).step hc hch71
          replace hr57 := (hO65.off.le (by omega)).step hr57 hch71
          have hub75 := hO70.lt
          obtain ⟨A76, c77, hv78, hcap79, hcap80⟩ := hO70.form; subst hv78
          refine ⟨fun _ => hr57, ?_⟩
          refine tw_free rfl (w0 rfl) rfl rfl (fun u hu => (pv_build rfl rfl (B25_0I_1SL _ _ _ _) : PV _ _ _ _) u) ?_
          refine tw_one rfl (op_alloc T25 (w0 rfl) rfl rfl rfl ?_)
          rintro g82 w81 hg85 hg86 hB84 hch83
          have hsz87 := hch83.size
          replace hRxs := hRxs.ch0 hch83
          replace hRlog := hRlog.ch0 hch83
          replace hB8 := hB8.ch0 hch83
          replace hB15 := hB15.ch0 hch83
          replace hO70 := hO70.ch0 hch83
          replace hc := hc.step0 hch83
          replace hr57 := hr57.step0 hch83
          replace hB84 : Blk w81 g82 25 [(.int .i64 0), (.slice none 0 0)] := hB84
          have hdj88 : ∀ s ∈ obl (.slice A76 xs.length c77), s ≠ g82 := fun s hs => by have := hub75 s hs; omega
          refine ⟨fun _ => hr57, ?_⟩
          refine tw_one rfl (op_store_blk T25 hB84 (w0 rfl) rfl rfl rfl rfl rfl (one_all rfl) (Nat.le_of_ble_eq_true rfl) ?_)
          rintro w89 hB91 hch90
          have hsz92 := hch90.size
          replace hRxs := hRxs.ch hch90 (off1 (by omega))
          replace hRlog := hRlog.ch hch90 (off1 (by omega))
          replace hB8 := hB8.ch hch90 (by simp; omega)
          replace hB15 := hB15.ch hch90 (by simp; omega)
          replace hO70 := hO70.ch hch90 (fun s hs => by have := dj_asg hdj88 s hs; simpa using this)
          replace hc := (off1 (by omega)).step hc hch90
          clear hr57
          replace hB84 : Blk w89 g82 25 [(.int .i64 (m + (nlog : Int))), (.slice A76 xs.length c77)] := hB91
          clear hB91
          refine ⟨fun h => (by cases h), ?_⟩
          clear hB15_r
          clear hB8_r
          clear hRlog_r
          clear hRxs_r
          refine tw_done (hK56 _ _ ?_)
          refine hK51 _ _ ?_
          refine cw_seq fun K93 hK94 => ?_
          refine cw_seq fun K95 hK96 => ?_
          refine cw_region fun K97 hK98 => ?_
          refine rw_cons (op_pv (w0 rfl) rfl rfl (pv_assign (v := (.int .i64 0)) rfl rfl) ?_)
          refine rw_nil (hK98 _ _ ?_)
          refine hK96 _ _ ?_
          refine cw_block ?_
          refine cw_loop (σ := Nat) (fun k => [(7, (.int .i64 (k : Int))), (1, (.slice Alog nlog clog)), (4, (.pointer (some (⟨g13, 0, none⟩)))), (5, (.bool false)), (6, (.pointer (some (⟨g82, 0, none⟩))))]) (fun k W => (k ≤ nlog) ∧ RS encI 1 W w.heap.size Axs nxs xs ∧ RS encB 2 W w.heap.size Alog nlog log ∧ Blk W g6 25 [(.int .i64 m), (.slice Axs nxs cxs)] ∧ Blk W g13 25 [(.int .i64 0), (.slice none 0 0)] ∧ Blk W g82 25 [(.int .i64 (m + (nlog : Int))), (.slice A76 xs.length c77)] ∧ Own encI 1 W w52.heap.size 3 (.slice A76 xs.length c77) (runL xs (log.take k)) ∧ Ch [] w W ∧ w52.heap.size ≤ W.heap.size ∧ (∀ s ∈ obl (.slice A76 xs.length c77), s ≠ g6) ∧ (∀ s ∈ obl (.slice A76 xs.length c77), s ≠ g13) ∧ (∀ s ∈ obl (.slice A76 xs.length c77), s ≠ g82)) (fun k => nlog - k) 0 ?_ ?_ ?_
          · exact ⟨rfl, rfl, rfl, rfl, rfl, trivial⟩
          · refine ⟨Nat.zero_le _, hRxs, hRlog, hB8, hB15, hB84, hO70, hc, (by omega), (fun s hs => by first | (have h1 := hO70.off s hs; omega) | (have h1 := hub75 s hs; omega) | exact dj_asg hdj88 s hs | (simp [obl, Value.ownBlock] at hs; done) | (simp [obl, Value.ownBlock] at hs; omega)), (fun s hs => by first | (have h1 := hO70.off s hs; omega) | (have h1 := hub75 s hs; omega) | exact dj_asg hdj88 s hs | (simp [obl, Value.ownBlock] at hs; done) | (simp [obl, Value.ownBlock] at hs; omega)), (fun s hs => by first | (have h1 := hO70.off s hs; omega) | (have h1 := hub75 s hs; omega) | exact dj_asg hdj88 s hs | (simp [obl, Value.ownBlock] at hs; done) | (simp [obl, Value.ownBlock] at hs; omega))⟩
          · rintro k J107 w99 ⟨hk, hRxs, hRlog, hB8, hB15, hB84, hO70, hc, hmono100, hdj101, hdj102, hdj103⟩ K104 hK105
            have hsz109 := hc.size
            have hub75 := hO70.lt
            have hlk := hlo.2 k; have hrl := runL_len (log.take k) xs
            refine cw_seq fun K110 hK111 => ?_
            refine cw_seq fun K112 hK113 => ?_
            refine cw_region fun K114 hK115 => ?_
            refine rw_cons (op_pv (w0 rfl) rfl rfl (pv_move (v := (.int .i64 (k : Int))) rfl rfl) ?_)
            refine rw_cons (op_pv (w0 rfl) rfl rfl (pv_move (v := (.slice Alog nlog clog)) rfl rfl) ?_)
            refine rw_cons (op_pv (w0 rfl) rfl rfl (pv_len Try.underlying34 rfl rfl) ?_)
            refine rw_cons (op_pv (w0 rfl) rfl rfl (pv_lss rfl rfl rfl) ?_)
            refine rw_nil (hK115 _ _ ?_)
            refine hK113 _ _ ?_
            refine cw_cond rfl (fun h116 => ?_) (fun h116 => ?_)
            · -- then
              replace h116 := of_decide_eq_true h116
              refine cw_skip ?_
              refine hK111 _ _ ?_
              refine cw_seq fun K117 hK118 => ?_
              refine cw_block ?_
              refine cw_drawn (fun u => Ch [] w99 u) (.free 0 (.free 1 (.free 2 (.free 3 (.free 4 (.free 5 (.free 6 (.free 7 (.free 8 (.free 9 (.free 10 (.free 11 (.free 12 (.one 13 false (.done))))))))))))))) (by kernel_rfl) (by kernel_rfl) (Ch.refl _ _).drew fun K122 hK123 => ?_
              obtain ⟨w119, hw_, hch120, hsz121⟩ : ∃ w1 : World, w1 = w99.drew ∧ Ch [] w99 w1 ∧ w1.heap.size = w99.heap.size := ⟨_, rfl, (Ch.refl _ _).drew, rfl⟩
              rw [← hw_]; clear hw_
              have hr124 : Ch [] w99 w119 := hch120.sub (fun s hs => by cases hs)
              have hRxs_r := hRxs
              have hRlog_r := hRlog
              have hB8_r := hB8
              have hB15_r := hB15
              have hB84_r := hB84
              have hO70_r := hO70
              have hsz125 := hch120.size
              replace hRxs := hRxs.ch0 hch120
              replace hRlog := hRlog.ch0 hch120
              replace hB8 := hB8.ch0 hch120
              replace hB15 := hB15.ch0 hch120
              replace hB84 := hB84.ch0 hch120
              replace hO70 := hO70.ch0 hch120
              replace hc := hc.step0 hch120
              refine tw_free rfl (w0 rfl) rfl rfl (fun u hu => (pv_fld F25_1 rfl rfl : PV _ _ _ _) u) ?_
              refine tw_free rfl (w0 rfl) rfl rfl (fun u hu => lv_load T23 rfl rfl ((hB84_r.ch hu (by simp)).cellA (i := 1) rfl)) ?_
              refine tw_free rfl (w0 rfl) rfl rfl (fun u hu => (pv_move (v := (.slice Alog nlog clog)) rfl rfl : PV _ _ _ _) u) ?_
              refine tw_free rfl (w0 rfl) rfl rfl (fun u hu => (pv_move (v := (.int .i64 (k : Int))) rfl rfl : PV _ _ _ _) u) ?_
              refine tw_free rfl (w0 rfl) rfl rfl (fun u hu => (pv_idx Try.underlying34 T65 rfl rfl rfl (hRlog.some (k := k) (by omega)) (by omega) (by omega) : PV _ _ _ _) u) ?_
              refine tw_free rfl (w0 rfl) rfl rfl (fun u hu => (pv_fld F65_0 rfl rfl : PV _ _ _ _) u) ?_
              refine tw_free rfl (w0 rfl) rfl rfl (fun u hu => lv_load T3 rfl rfl ((hRlog_r.ch0 hu).cellE (k := k) (j := 0) (by omega) rfl)) ?_
              refine tw_free rfl (w0 rfl) rfl rfl (fun u hu => (pv_move (v := (.slice Alog nlog clog)) rfl rfl : PV _ _ _ _) u) ?_
              refine tw_free rfl (w0 rfl) rfl rfl (fun u hu => (pv_move (v := (.int .i64 (k : Int))) rfl rfl : PV _ _ _ _) u) ?_
              refine tw_free rfl (w0 rfl) rfl rfl (fun u hu => (pv_idx Try.underlying34 T65 rfl rfl rfl (hRlog.some (k := k) (by omega)) (by omega) (by omega) : PV _ _ _ _) u) ?_
              refine tw_free rfl (w0 rfl) rfl rfl (fun u hu => (pv_fld F65_1 rfl rfl : PV _ _ _ _) u) ?_
              refine tw_free rfl (w0 rfl) rfl rfl (fun u hu => lv_load T3 rfl rfl ((hRlog_r.ch0 hu).cellE (k := k) (j := 1) (by omega) rfl)) ?_
              refine tw_free rfl (w0 rfl) rfl rfl (fun u hu => (pv_idx Try.underlying23 T3 rfl rfl rfl ((hO70.rs (fun _ => rfl)).some (k := ((el log k).s).toNat) (by omega)) (by omega) (by omega) : PV _ _ _ _) u) ?_
              refine tw_one rfl (op_store_ownA (k := ((el log k).s).toNat) (off := 0) (el log k).a T3 hO70 (fun _ => rfl) (w0 rfl) rfl rfl rfl rfl rfl (one_all rfl) (by omega) (Nat.le_of_ble_eq_true rfl) rfl ?_)
              rintro w126 hO128 hch127
              have hsz129 := hch127.size
              replace hRxs := hRxs.ch hch127 (hO70.off.le (by omega))
              replace hRlog := hRlog.ch hch127 (hO70.off.le (by omega))
              replace hB8 := hB8.ch hch127 (fun hs => dj_asg hdj101 _ hs rfl)
              replace hB15 := hB15.ch hch127 (fun hs => dj_asg hdj102 _ hs rfl)
              replace hB84 := hB84.ch hch127 (fun hs => dj_asg hdj103 _ hs rfl)
              replace hc := (hO70.off.le (by omega)).step hc hch127
              clear hr124
              clear hO70; have hO70 := hO128; clear hO128
              refine ⟨fun h => (by cases h), ?_⟩
              clear hB15_r
              clear hB8_r
              clear hB84_r
              clear hO70_r
              clear hRlog_r
              clear hRxs_r
              refine tw_done (hK123 _ _ ?_)
              refine hK118 _ _ ?_
              refine cw_region fun K130 hK131 => ?_
              refine rw_cons (op_pv (w0 rfl) rfl rfl (pv_move (v := (.int .i64 (k : Int))) rfl rfl) ?_)
              refine rw_cons (op_pv (w0 rfl) rfl rfl (pv_add rfl rfl rfl (by omega) (by omega)) ?_)
              refine rw_cons (op_pv (w0 rfl) rfl rfl (pv_assign (v := (.int .i64 ((k : Int) + 1))) rfl rfl) ?_)
              refine rw_nil (hK131 _ _ ?_)
              refine hK105 _ _ (k + 1) ⟨(iv (by omega)), rfl, rfl, rfl, rfl, trivial⟩ ⟨?_, hRxs, hRlog, hB8, hB15, hB84, (by rw [runL_snoc xs (by omega)]; exact hO70), hc, (by omega), (dj_asg hdj101), (dj_asg hdj102), (dj_asg hdj103)⟩ ?_
              · omega
              · (first | omega | (simp only []; omega))
            · -- else
              replace h116 := of_decide_eq_false h116
              refine cw_exit ?_
              refine hK94 _ _ ?_
              refine cw_seq fun K132 hK133 => ?_
              refine cw_seq fun K134 hK135 => ?_
              have hrn136 : (runL xs (log.take k)) = (runL xs log) := by rw [el_take_all log k (by omega)]
              rw [hrn136] at hO70
              have hub137 := hO70.lt
              have hrl2 := runL_len log xs
              refine cw_region fun K138 hK139 => ?_
              refine rw_cons (op_lv (w0 rfl) rfl rfl (lv_loadN T25 rfl rfl rfl (fun j v hv => hB84.cellA hv)) ?_)
              refine rw_cons (op_call (w0 rfl) rfl rfl (rc_call C10 rfl rfl) (BaseValid_s (m + (nlog : Int)) _ xs.length _ (runL xs log) _ (hO70.rs (fun _ => rfl)) (by omega)) ?_)
              rintro _ w140 ⟨rfl, hch141⟩
              have hsz142 := hch141.size
              replace hRxs := hRxs.ch0 hch141
              replace hRlog := hRlog.ch0 hch141
              replace hB8 := hB8.ch0 hch141
              replace hB15 := hB15.ch0 hch141
              replace hB84 := hB84.ch0 hch141
              replace hO70 := hO70.ch0 hch141
              replace hc := hc.step0 hch141
              refine rw_cons (op_pv (w0 rfl) rfl rfl (pv_not rfl rfl) ?_)
              refine rw_nil (hK139 _ _ ?_)
              refine hK135 _ _ ?_
              refine cw_cond rfl (fun h143 => ?_) (fun h143 => ?_)
              · -- then
                replace h143 := not_t h143
                replace h143 := dec_f h143
                refine cw_seq fun K144 hK145 => ?_
                refine cw_region fun K146 hK147 => ?_
                refine rw_cons (op_pv (w0 rfl) rfl rfl (pv_build rfl rfl (B25 )) ?_)
                refine rw_cons (op_store_blk T25 hB15 (w0 rfl) rfl rfl rfl rfl rfl (one_all rfl) (Nat.le_of_ble_eq_true rfl) ?_)
                rintro w148 hB150 hch149
                have hsz151 := hch149.size
                replace hRxs := hRxs.ch hch149 (off1 (by omega))
                replace hRlog := hRlog.ch hch149 (off1 (by omega))
                replace hB8 := hB8.ch hch149 (by simp; omega)
                replace hB84 := hB84.ch hch149 (by simp; omega)
                replace hO70 := hO70.ch hch149 (fun s hs => by have := dj_asg hdj102 s hs; simpa using this)
                replace hc := (off1 (by omega)).step hc hch149
                replace hB15 : Blk w148 g13 25 [(.int .i64 0), (.slice none 0 0)] := hB150
                clear hB150
                refine rw_cons (op_pv (w0 rfl) rfl rfl (pv_assign (v := (.bool false)) rfl rfl) ?_)
                refine rw_nil (hK147 _ _ ?_)
                refine hK145 _ _ ?_
                refine cw_ret ?_
                refine finCT T25 rfl rfl rfl (fun j v hv => hB15.cellA hv) ?_
                have hno : ¬RunOK m xs log := by rintro ⟨h1, h2, h3⟩; rw [hlenlog] at h3; first | contradiction | exact absurd h3 (by assumption)
                have he_1 : ([] : List Int) = runV m xs log := (runV_no hno).symm
                exact ⟨_, _, tup2 (agg2 (iv (runM_no hno).symm) (sl_as (Own.nil encI 1 w148 w.heap.size 3) he_1)) (bvf hno), own_as ((Own.nil encI 1 w148 w.heap.size 3).less (by omega)) he_1, hc⟩
              · -- else
                replace h143 := not_f h143
                replace h143 := dec_t h143
                refine cw_skip ?_
                refine hK133 _ _ ?_
                refine cw_seq fun K152 hK153 => ?_
                refine cw_region fun K154 hK155 => ?_
                refine rw_cons (op_lv (w0 rfl) rfl rfl (lv_loadN T25 rfl rfl rfl (fun j v hv => hB84.cellA hv)) ?_)
                refine rw_cons (op_store_blk T25 hB15 (w0 rfl) rfl rfl rfl rfl rfl (one_all rfl) (Nat.le_of_ble_eq_true rfl) ?_)
                rintro w156 hB158 hch157
                have hsz159 := hch157.size
                replace hRxs := hRxs.ch hch157 (off1 (by omega))
                replace hRlog := hRlog.ch hch157 (off1 (by omega))
                replace hB8 := hB8.ch hch157 (by simp; omega)
                replace hB84 := hB84.ch hch157 (by simp; omega)
                replace hO70 := hO70.ch hch157 (fun s hs => by have := dj_asg hdj102 s hs; simpa using this)
                replace hc := (off1 (by omega)).step hc hch157
                replace hB15 : Blk w156 g13 25 [(.int .i64 (m + (nlog : Int))), (.slice A76 xs.length c77)] := hB158
                clear hB158
                refine rw_cons (op_pv (w0 rfl) rfl rfl (pv_assign (v := (.bool true)) rfl rfl) ?_)
                refine rw_nil (hK155 _ _ ?_)
                refine hK153 _ _ ?_
                refine cw_ret ?_
                refine finCT T25 rfl rfl rfl (fun j v hv => hB15.cellA hv) ?_
                have hyes : RunOK m xs log := ⟨by assumption, by assumption, by rw [hlenlog]; assumption⟩
                have he_1 : (runL xs log) = runV m xs log := (runV_yes hyes).symm
                exact ⟨_, _, tup2 (agg2 (iv (by rw [runM_yes hyes, hlenlog])) (sl_as hO70 he_1)) (bvt hyes), own_as (hO70.less (by omega)) he_1, hc⟩
        · -- first 10
          refine  (op_alloc T25 (w0 rfl) rfl rfl rfl ?_)
          rintro g161 w160 hg164 hg165 hB163 hch162
          have hsz166 := hch162.size
          replace hRxs := hRxs.ch0 hch162
          replace hRlog := hRlog.ch0 hch162
          replace hB8 := hB8.ch0 hch162
          replace hB15 := hB15.ch0 hch162
          replace hO65 := hO65.ch0 hch162
          replace hc := hc.step0 hch162
          replace hr57 := hr57.step0 hch162
          replace hB163 : Blk w160 g161 25 [(.int .i64 0), (.slice none 0 0)] := hB163
          have hdj167 : ∀ s ∈ obl (.slice (some ⟨g60, 0, none⟩) 0 0), s ≠ g161 := fun s hs => by have := hub67 s hs; omega
          refine ⟨fun _ => hr57, ?_⟩
          refine tw_one rfl (op_append Try.underlying23 T3 (fun _ => rfl) rfl (by decide) (fun _ => one_all rfl) (w0 rfl) rfl rfl rfl rfl rfl hO65 hRxs (by unfold maxLen; first | omega | (simp; omega)) (by first | omega | (simp; omega)) (by omega) ?_)
          rintro v168 w169 hO170 hch171 hs172
          replace hO170 : Own encI 1 w169 w52.heap.size 3 v168 xs := hO170
          have hl173 : xs.length = 0 + nxs := by first | (have hl0 := hRxs.len; omega) | (have hl0 := hRxs.len; simp only [List.length_append, List.length_cons, List.length_nil] at hl0 ⊢; omega) | simp | rfl
          have hgl175 := hB163.lt
          have hsz176 := hch171.size
          replace hRxs := hRxs.ch hch171 (hO65.off.le (by omega))
          replace hRlog := hRlog.ch hch171 (hO65.off.le (by omega))
          replace hB8 := hB8.ch hch171 (by first | (refine hO65.off.not ?_; omega) | (intro hs; have := hub67 _ hs; omega))
          replace hB15 := hB15.ch hch171 (by first | (refine hO65.off.not ?_; omega) | (intro hs; have := hub67 _ hs; omega))
          replace hB163 := hB163.ch hch171 (fun hs => dj_asg hdj167 _ hs rfl)
          replace hc := (hO65.off.le (by omega)).step hc hch171
          replace hr57 := (hO65.off.le (by omega)).step hr57 hch171
          have hub177 := hO170.lt
          obtain ⟨A178, c179, hv180, hcap181, hcap182⟩ := hO170.form; subst hv180
          have hdj174 : ∀ s ∈ obl (.slice A178 xs.length c179), s ≠ g161 := dj_newg hs172 (dj_asg hdj167) (by omega)
          refine ⟨fun _ => hr57, ?_⟩
          refine tw_free rfl (w0 rfl) rfl rfl (fun u hu => (pv_build rfl rfl (B25_0I_1SL _ _ _ _) : PV _ _ _ _) u) ?_
          refine tw_one rfl (op_store_blk T25 hB163 (w0 rfl) rfl rfl rfl rfl rfl (one_all rfl) (Nat.le_of_ble_eq_true rfl) ?_)
          rintro w183 hB185 hch184
          have hsz186 := hch184.size
          replace hRxs := hRxs.ch hch184 (off1 (by omega))
          replace hRlog := hRlog.ch hch184 (off1 (by omega))
          replace hB8 := hB8.ch hch184 (by simp; omega)
          replace hB15 := hB15.ch hch184 (by simp; omega)
          replace hO170 := hO170.ch hch184 (fun s hs => by have := dj_asg hdj174 s hs; simpa using this)
          replace hc := (off1 (by omega)).step hc hch184
          clear hr57
          replace hB163 : Blk w183 g161 25 [(.int .i64 (m + (nlog : Int))), (.slice A178 xs.length c179)] := hB185
          clear hB185
          refine ⟨fun h => (by cases h), ?_⟩
          clear hB15_r
          clear hB8_r
          clear hRlog_r
          clear hRxs_r
          refine tw_done (hK56 _ _ ?_)
          refine hK51 _ _ ?_
          refine cw_seq fun K187 hK188 => ?_
          refine cw_seq fun K189 hK190 => ?_
          refine cw_region fun K191 hK192 => ?_
          refine rw_cons (op_pv (w0 rfl) rfl rfl (pv_assign (v := (.int .i64 0)) rfl rfl) ?_)
          refine rw_nil (hK192 _ _ ?_)
          refine hK190 _ _ ?_
          refine cw_block ?_
          refine cw_loop (σ := Nat) (fun k => [(7, (.int .i64 (k : Int))), (1, (.slice Alog nlog clog)), (4, (.pointer (some (⟨g13, 0, none⟩)))), (5, (.bool false)), (6, (.pointer (some (⟨g161, 0, none⟩))))]) (fun k W => (k ≤ nlog) ∧ RS encI 1 W w.heap.size Axs nxs xs ∧ RS encB 2 W w.heap.size Alog nlog log ∧ Blk W g6 25 [(.int .i64 m), (.slice Axs nxs cxs)] ∧ Blk W g13 25 [(.int .i64 0), (.slice none 0 0)] ∧ Blk W g161 25 [(.int .i64 (m + (nlog : Int))), (.slice A178 xs.length c179)] ∧ Own encI 1 W w52.heap.size 3 (.slice A178 xs.length c179) (runL xs (log.take k)) ∧ Ch [] w W ∧ w52.heap.size ≤ W.heap.size ∧ (∀ s ∈ obl (.slice A178 xs.length c179), s ≠ g6) ∧ (∀ s ∈ obl (.slice A178 xs.length c179), s ≠ g13) ∧ (∀ s ∈ obl (.slice A178 xs.length c179), s ≠ g161)) (fun k => nlog - k) 0 ?_ ?_ ?_
          · exact ⟨rfl, rfl, rfl, rfl, rfl, trivial⟩
          · refine ⟨Nat.zero_le _, hRxs, hRlog, hB8, hB15, hB163, hO170, hc, (by omega), (fun s hs => by first | (have h1 := hO170.off s hs; omega) | (have h1 := hub177 s hs; omega) | exact dj_asg hdj167 s hs | exact dj_asg hdj174 s hs | (simp [obl, Value.ownBlock] at hs; done) | (simp [obl, Value.ownBlock] at hs; omega)), (fun s hs => by first | (have h1 := hO170.off s hs; omega) | (have h1 := hub177 s hs; omega) | exact dj_asg hdj167 s hs | exact dj_asg hdj174 s hs | (simp [obl, Value.ownBlock] at hs; done) | (simp [obl, Value.ownBlock] at hs; omega)), (fun s hs => by first | (have h1 := hO170.off s hs; omega) | (have h1 := hub177 s hs; omega) | exact dj_asg hdj167 s hs | exact dj_asg hdj174 s hs | (simp [obl, Value.ownBlock] at hs; done) | (simp [obl, Value.ownBlock] at hs; omega))⟩
          · rintro k J201 w193 ⟨hk, hRxs, hRlog, hB8, hB15, hB163, hO170, hc, hmono194, hdj195, hdj196, hdj197⟩ K198 hK199
            have hsz203 := hc.size
            have hub177 := hO170.lt
            have hlk := hlo.2 k; have hrl := runL_len (log.take k) xs
            refine cw_seq fun K204 hK205 => ?_
            refine cw_seq fun K206 hK207 => ?_
            refine cw_region fun K208 hK209 => ?_
            refine rw_cons (op_pv (w0 rfl) rfl rfl (pv_move (v := (.int .i64 (k : Int))) rfl rfl) ?_)
            refine rw_cons (op_pv (w0 rfl) rfl rfl (pv_move (v := (.slice Alog nlog clog)) rfl rfl) ?_)
            refine rw_cons (op_pv (w0 rfl) rfl rfl (pv_len Try.underlying34 rfl rfl) ?_)
            refine rw_cons (op_pv (w0 rfl) rfl rfl (pv_lss rfl rfl rfl) ?_)
            refine rw_nil (hK209 _ _ ?_)
            refine hK207 _ _ ?_
            refine cw_cond rfl (fun h210 => ?_) (fun h210 => ?_)
            · -- then
              replace h210 := of_decide_eq_true h210
              refine cw_skip ?_
              refine hK205 _ _ ?_
              refine cw_seq fun K211 hK212 => ?_
              refine cw_block ?_
              refine cw_drawn (fun u => Ch [] w193 u) (.free 0 (.free 1 (.free 2 (.free 3 (.free 4 (.free 5 (.free 6 (.free 7 (.free 8 (.free 9 (.free 10 (.free 11 (.free 12 (.one 13 false (.done))))))))))))))) (by kernel_rfl) (by kernel_rfl) (Ch.refl _ _).drew fun K216 hK217 => ?_
              obtain ⟨w213, hw_, hch214, hsz215⟩ : ∃ w1 : World, w1 = w193.drew ∧ Ch [] w193 w1 ∧ w1.heap.size = w193.heap.size := ⟨_, rfl, (Ch.refl _ _).drew, rfl⟩
              rw [← hw_]; clear hw_
              have hr218 : Ch [] w193 w213 := hch214.sub (fun s hs => by cases hs)
              have hRxs_r := hRxs
              have hRlog_r := hRlog
              have hB8_r := hB8
              have hB15_r := hB15
              have hB163_r := hB163
              have hO170_r := hO170
              have hsz219 := hch214.size
              replace hRxs := hRxs.ch0 hch214
              replace hRlog := hRlog.ch0 hch214
              replace hB8 := hB8.ch0 hch214
              replace hB15 := hB15.ch0 hch214
              replace hB163 := hB163.ch0 hch214
              replace hO170 := hO170.ch0 hch214
              replace hc := hc.step0 hch214
              refine tw_free rfl (w0 rfl) rfl rfl (fun u hu => (pv_fld F25_1 rfl rfl : PV _ _ _ _) u) ?_
              refine tw_free rfl (w0 rfl) rfl rfl (fun u hu => lv_load T23 rfl rfl ((hB163_r.ch hu (by simp)).cellA (i := 1) rfl)) ?_
              refine tw_free rfl (w0 rfl) rfl rfl (fun u hu => (pv_move (v := (.slice Alog nlog clog)) rfl rfl : PV _ _ _ _) u) ?_
              refine tw_free rfl (w0 rfl) rfl rfl (fun u hu => (pv_move (v := (.int .i64 (k : Int))) rfl rfl : PV _ _ _ _) u) ?_
              refine tw_free rfl (w0 rfl) rfl rfl (fun u hu => (pv_idx Try.underlying34 T65 rfl rfl rfl (hRlog.some (k := k) (by omega)) (by omega) (by omega) : PV _ _ _ _) u) ?_
              refine tw_free rfl (w0 rfl) rfl rfl (fun u hu => (pv_fld F65_0 rfl rfl : PV _ _ _ _) u) ?_
              refine tw_free rfl (w0 rfl) rfl rfl (fun u hu => lv_load T3 rfl rfl ((hRlog_r.ch0 hu).cellE (k := k) (j := 0) (by omega) rfl)) ?_
              refine tw_free rfl (w0 rfl) rfl rfl (fun u hu => (pv_move (v := (.slice Alog nlog clog)) rfl rfl : PV _ _ _ _) u) ?_
              refine tw_free rfl (w0 rfl) rfl rfl (fun u hu => (pv_move (v := (.int .i64 (k : Int))) rfl rfl : PV _ _ _ _) u) ?_
              refine tw_free rfl (w0 rfl) rfl rfl (fun u hu => (pv_idx Try.underlying34 T65 rfl rfl rfl (hRlog.some (k := k) (by omega)) (by omega) (by omega) : PV _ _ _ _) u) ?_
              refine tw_free rfl (w0 rfl) rfl rfl (fun u hu => (pv_fld F65_1 rfl rfl : PV _ _ _ _) u) ?_
              refine tw_free rfl (w0 rfl) rfl rfl (fun u hu => lv_load T3 rfl rfl ((hRlog_r.ch0 hu).cellE (k := k) (j := 1) (by omega) rfl)) ?_
              refine tw_free rfl (w0 rfl) rfl rfl (fun u hu => (pv_idx Try.underlying23 T3 rfl rfl rfl ((hO170.rs (fun _ => rfl)).some (k := ((el log k).s).toNat) (by omega)) (by omega) (by omega) : PV _ _ _ _) u) ?_
              refine tw_one rfl (op_store_ownA (k := ((el log k).s).toNat) (off := 0) (el log k).a T3 hO170 (fun _ => rfl) (w0 rfl) rfl rfl rfl rfl rfl (one_all rfl) (by omega) (Nat.le_of_ble_eq_true rfl) rfl ?_)
              rintro w220 hO222 hch221
              have hsz223 := hch221.size
              replace hRxs := hRxs.ch hch221 (hO170.off.le (by omega))
              replace hRlog := hRlog.ch hch221 (hO170.off.le (by omega))
              replace hB8 := hB8.ch hch221 (fun hs => dj_asg hdj195 _ hs rfl)
              replace hB15 := hB15.ch hch221 (fun hs => dj_asg hdj196 _ hs rfl)
              replace hB163 := hB163.ch hch221 (fun hs => dj_asg hdj197 _ hs rfl)
              replace hc := (hO170.off.le (by omega)).step hc hch221
              clear hr218
              clear hO170; have hO170 := hO222; clear hO222
              refine ⟨fun h => (by cases h), ?_⟩
              clear hB15_r
              clear hB163_r
              clear hB8_r
              clear hO170_r
              clear hRlog_r
              clear hRxs_r
              refine tw_done (hK217 _ _ ?_)
              refine hK212 _ _ ?_
              refine cw_region fun K224 hK225 => ?_
              refine rw_cons (op_pv (w0 rfl) rfl rfl (pv_move (v := (.int .i64 (k : Int))) rfl rfl) ?_)
              refine rw_cons (op_pv (w0 rfl) rfl rfl (pv_add rfl rfl rfl (by omega) (by omega)) ?_)
              refine rw_cons (op_pv (w0 rfl) rfl rfl (pv_assign (v := (.int .i64 ((k : Int) + 1))) rfl rfl) ?_)
              refine rw_nil (hK225 _ _ ?_)
              refine hK199 _ _ (k + 1) ⟨(iv (by omega)), rfl, rfl, rfl, rfl, trivial⟩ ⟨?_, hRxs, hRlog, hB8, hB15, hB163, (by rw [runL_snoc xs (by omega)]; exact hO170), hc, (by omega), (dj_asg hdj195), (dj_asg hdj196), (dj_asg hdj197)⟩ ?_
              · omega
              · (first | omega | (simp only []; omega))
            · -- else
              replace h210 := of_decide_eq_false h210
              refine cw_exit ?_
              refine hK188 _ _ ?_
              refine cw_seq fun K226 hK227 => ?_
              refine cw_seq fun K228 hK229 => ?_
              have hrn230 : (runL xs (log.take k)) = (runL xs log) := by rw [el_take_all log k (by omega)]
              rw [hrn230] at hO170
              have hub231 := hO170.lt
              have hrl2 := runL_len log xs
              refine cw_region fun K232 hK233 => ?_
              refine rw_cons (op_lv (w0 rfl) rfl rfl (lv_loadN T25 rfl rfl rfl (fun j v hv => hB163.cellA hv)) ?_)
              refine rw_cons (op_call (w0 rfl) rfl rfl (rc_call C10 rfl rfl) (BaseValid_s (m + (nlog : Int)) _ xs.length _ (runL xs log) _ (hO170.rs (fun _ => rfl)) (by omega)) ?_)
              rintro _ w234 ⟨rfl, hch235⟩
              have hsz236 := hch235.size
              replace hRxs := hRxs.ch0 hch235
              replace hRlog := hRlog.ch0 hch235
              replace hB8 := hB8.ch0 hch235
              replace hB15 := hB15.ch0 hch235
              replace hB163 := hB163.ch0 hch235
              replace hO170 := hO170.ch0 hch235
              replace hc := hc.step0 hch235
              refine rw_cons (op_pv (w0 rfl) rfl rfl (pv_not rfl rfl) ?_)
              refine rw_nil (hK233 _ _ ?_)
              refine hK229 _ _ ?_
              refine cw_cond rfl (fun h237 => ?_) (fun h237 => ?_)
              · -- then
                replace h237 := not_t h237
                replace h237 := dec_f h237
                refine cw_seq fun K238 hK239 => ?_
                refine cw_region fun K240 hK241 => ?_
                refine rw_cons (op_pv (w0 rfl) rfl rfl (pv_build rfl rfl (B25 )) ?_)
                refine rw_cons (op_store_blk T25 hB15 (w0 rfl) rfl rfl rfl rfl rfl (one_all rfl) (Nat.le_of_ble_eq_true rfl) ?_)
                rintro w242 hB244 hch243
                have hsz245 := hch243.size
                replace hRxs := hRxs.ch hch243 (off1 (by omega))
                replace hRlog := hRlog.ch hch243 (off1 (by omega))
                replace hB8 := hB8.ch hch243 (by simp; omega)
                replace hB163 := hB163.ch hch243 (by simp; omega)
                replace hO170 := hO170.ch hch243 (fun s hs => by have := dj_asg hdj196 s hs; simpa using this)
                replace hc := (off1 (by omega)).step hc hch243
                replace hB15 : Blk w242 g13 25 [(.int .i64 0), (.slice none 0 0)] := hB244
                clear hB244
                refine rw_cons (op_pv (w0 rfl) rfl rfl (pv_assign (v := (.bool false)) rfl rfl) ?_)
                refine rw_nil (hK241 _ _ ?_)
                refine hK239 _ _ ?_
                refine cw_ret ?_
                refine finCT T25 rfl rfl rfl (fun j v hv => hB15.cellA hv) ?_
                have hno : ¬RunOK m xs log := by rintro ⟨h1, h2, h3⟩; rw [hlenlog] at h3; first | contradiction | exact absurd h3 (by assumption)
                have he_1 : ([] : List Int) = runV m xs log := (runV_no hno).symm
                exact ⟨_, _, tup2 (agg2 (iv (runM_no hno).symm) (sl_as (Own.nil encI 1 w242 w.heap.size 3) he_1)) (bvf hno), own_as ((Own.nil encI 1 w242 w.heap.size 3).less (by omega)) he_1, hc⟩
              · -- else
                replace h237 := not_f h237
                replace h237 := dec_t h237
                refine cw_skip ?_
                refine hK227 _ _ ?_
                refine cw_seq fun K246 hK247 => ?_
                refine cw_region fun K248 hK249 => ?_
                refine rw_cons (op_lv (w0 rfl) rfl rfl (lv_loadN T25 rfl rfl rfl (fun j v hv => hB163.cellA hv)) ?_)
                refine rw_cons (op_store_blk T25 hB15 (w0 rfl) rfl rfl rfl rfl rfl (one_all rfl) (Nat.le_of_ble_eq_true rfl) ?_)
                rintro w250 hB252 hch251
                have hsz253 := hch251.size
                replace hRxs := hRxs.ch hch251 (off1 (by omega))
                replace hRlog := hRlog.ch hch251 (off1 (by omega))
                replace hB8 := hB8.ch hch251 (by simp; omega)
                replace hB163 := hB163.ch hch251 (by simp; omega)
                replace hO170 := hO170.ch hch251 (fun s hs => by have := dj_asg hdj196 s hs; simpa using this)
                replace hc := (off1 (by omega)).step hc hch251
                replace hB15 : Blk w250 g13 25 [(.int .i64 (m + (nlog : Int))), (.slice A178 xs.length c179)] := hB252
                clear hB252
                refine rw_cons (op_pv (w0 rfl) rfl rfl (pv_assign (v := (.bool true)) rfl rfl) ?_)
                refine rw_nil (hK249 _ _ ?_)
                refine hK247 _ _ ?_
                refine cw_ret ?_
                refine finCT T25 rfl rfl rfl (fun j v hv => hB15.cellA hv) ?_
                have hyes : RunOK m xs log := ⟨by assumption, by assumption, by rw [hlenlog]; assumption⟩
                have he_1 : (runL xs log) = runV m xs log := (runV_yes hyes).symm
                exact ⟨_, _, tup2 (agg2 (iv (by rw [runM_yes hyes, hlenlog])) (sl_as hO170 he_1)) (bvt hyes), own_as (hO170.less (by omega)) he_1, hc⟩
      · -- first 10
        refine  (op_alloc T25 (w0 rfl) rfl rfl rfl ?_)
        rintro g255 w254 hg258 hg259 hB257 hch256
        have hsz260 := hch256.size
        replace hRxs := hRxs.ch0 hch256
        replace hRlog := hRlog.ch0 hch256
        replace hB8 := hB8.ch0 hch256
        replace hB15 := hB15.ch0 hch256
        replace hc := hc.step0 hch256
        replace hr57 := hr57.step0 hch256
        replace hB257 : Blk w254 g255 25 [(.int .i64 0), (.slice none 0 0)] := hB257
        refine ⟨fun _ => hr57, ?_⟩
        refine tw_one rfl (op_bslice [] Try.underlying23 T3 (w0 rfl) rfl rfl rfl rfl rfl (by simp [Value.cells]) (by decide) ?_)
        intro g262 w261 hg265 hg266 hK264 hch263
        have hO267 : Own encI 1 w261 w254.heap.size 3 (.slice (some ⟨g262, 0, none⟩) 0 0) ([] : List Int) := Blk.own (xs := ([] : List Int)) hK264 (by omega) rfl (by decide) rfl
        have hsz268 := hch263.size
        replace hRxs := hRxs.ch0 hch263
        replace hRlog := hRlog.ch0 hch263
        replace hB8 := hB8.ch0 hch263
        replace hB15 := hB15.ch0 hch263
        replace hB257 := hB257.ch0 hch263
        replace hc := hc.step0 hch263
        replace hr57 := hr57.step0 hch263
        have hub269 := hO267.lt
        refine ⟨fun _ => hr57, ?_⟩
        refine tw_one rfl (op_append Try.underlying23 T3 (fun _ => rfl) rfl (by decide) (fun _ => one_all rfl) (w0 rfl) rfl rfl rfl rfl rfl hO267 hRxs (by unfold maxLen; first | omega | (simp; omega)) (by first | omega | (simp; omega)) (by omega) ?_)
        rintro v270 w271 hO272 hch273 hs274
        replace hO272 : Own encI 1 w271 w254.heap.size 3 v270 xs := hO272
        have hl275 : xs.length = 0 + nxs := by first | (have hl0 := hRxs.len; omega) | (have hl0 := hRxs.len; simp only [List.length_append, List.length_cons, List.length_nil] at hl0 ⊢; omega) | simp | rfl
        have hsz276 := hch273.size
        replace hRxs := hRxs.ch hch273 (hO267.off.le (by omega))
        replace hRlog := hRlog.ch hch273 (hO267.off.le (by omega))
        replace hB8 := hB8.ch hch273 (by first | (refine hO267.off.not ?_; omega) | (intro hs; have := hub269 _ hs; omega))
        replace hB15 := hB15.ch hch273 (by first | (refine hO267.off.not ?_; omega) | (intro hs; have := hub269 _ hs; omega))
        replace hB257 := hB257.ch hch273 (by first | (refine hO267.off.not ?_; omega) | (intro hs; have := hub269 _ hs; omega))
        replace hc := (hO267.off.le (by omega)).step hc hch273
        replace hr57 := (hO267.off.le (by omega)).step hr57 hch273
        have hub277 := hO272.lt
        obtain ⟨A278, c279, hv280, hcap281, hcap282⟩ := hO272.form; subst hv280
        refine ⟨fun _ => hr57, ?_⟩
        refine tw_free rfl (w0 rfl) rfl rfl (fun u hu => (pv_build rfl rfl (B25_0I_1SL _ _ _ _) : PV _ _ _ _) u) ?_
        refine tw_one rfl (op_store_blk T25 hB257 (w0 rfl) rfl rfl rfl rfl rfl (one_all rfl) (Nat.le_of_ble_eq_true rfl) ?_)
        rintro w283 hB285 hch284
        have hsz286 := hch284.size
        replace hRxs := hRxs.ch hch284 (off1 (by omega))
        replace hRlog := hRlog.ch hch284 (off1 (by omega))
        replace hB8 := hB8.ch hch284 (by simp; omega)
        replace hB15 := hB15.ch hch284 (by simp; omega)
        replace hO272 := hO272.ch hch284 (fun s hs => by first | (have := hO272.off s hs; simp; omega) | (have := hub277 s hs; simp; omega))
        replace hc := (off1 (by omega)).step hc hch284
        clear hr57
        replace hB257 : Blk w283 g255 25 [(.int .i64 (m + (nlog : Int))), (.slice A278 xs.length c279)] := hB285
        clear hB285
        refine ⟨fun h => (by cases h), ?_⟩
        clear hB15_r
        clear hB8_r
        clear hRlog_r
        clear hRxs_r
        refine tw_done (hK56 _ _ ?_)
        refine hK51 _ _ ?_
        refine cw_seq fun K287 hK288 => ?_
        refine cw_seq fun K289 hK290 => ?_
        refine cw_region fun K291 hK292 => ?_
        refine rw_cons (op_pv (w0 rfl) rfl rfl (pv_assign (v := (.int .i64 0)) rfl rfl) ?_)
        refine rw_nil (hK292 _ _ ?_)
        refine hK290 _ _ ?_
        refine cw_block ?_
        refine cw_loop (σ := Nat) (fun k => [(7, (.int .i64 (k : Int))), (1, (.slice Alog nlog clog)), (4, (.pointer (some (⟨g13, 0, none⟩)))), (5, (.bool false)), (6, (.pointer (some (⟨g255, 0, none⟩))))]) (fun k W => (k ≤ nlog) ∧ RS encI 1 W w.heap.size Axs nxs xs ∧ RS encB 2 W w.heap.size Alog nlog log ∧ Blk W g6 25 [(.int .i64 m), (.slice Axs nxs cxs)] ∧ Blk W g13 25 [(.int .i64 0), (.slice none 0 0)] ∧ Blk W g255 25 [(.int .i64 (m + (nlog : Int))), (.slice A278 xs.length c279)] ∧ Own encI 1 W w254.heap.size 3 (.slice A278 xs.length c279) (runL xs (log.take k)) ∧ Ch [] w W ∧ w254.heap.size ≤ W.heap.size ∧ (∀ s ∈ obl (.slice A278 xs.length c279), s ≠ g6) ∧ (∀ s ∈ obl (.slice A278 xs.length c279), s ≠ g13) ∧ (∀ s ∈ obl (.slice A278 xs.length c279), s ≠ g255)) (fun k => nlog - k) 0 ?_ ?_ ?_
        · exact ⟨rfl, rfl, rfl, rfl, rfl, trivial⟩
        · refine ⟨Nat.zero_le _, hRxs, hRlog, hB8, hB15, hB257, hO272, hc, (by omega), (fun s hs => by first | (have h1 := hO272.off s hs; omega) | (have h1 := hub277 s hs; omega) | (simp [obl, Value.ownBlock] at hs; done) | (simp [obl, Value.ownBlock] at hs; omega)), (fun s hs => by first | (have h1 := hO272.off s hs; omega) | (have h1 := hub277 s hs; omega) | (simp [obl, Value.ownBlock] at hs; done) | (simp [obl, Value.ownBlock] at hs; omega)), (fun s hs => by first | (have h1 := hO272.off s hs; omega) | (have h1 := hub277 s hs; omega) | (simp [obl, Value.ownBlock] at hs; done) | (simp [obl, Value.ownBlock] at hs; omega))⟩
        · rintro k J301 w293 ⟨hk, hRxs, hRlog, hB8, hB15, hB257, hO272, hc, hmono294, hdj295, hdj296, hdj297⟩ K298 hK299
          have hsz303 := hc.size
          have hub277 := hO272.lt
          have hlk := hlo.2 k; have hrl := runL_len (log.take k) xs
          refine cw_seq fun K304 hK305 => ?_
          refine cw_seq fun K306 hK307 => ?_
          refine cw_region fun K308 hK309 => ?_
          refine rw_cons (op_pv (w0 rfl) rfl rfl (pv_move (v := (.int .i64 (k : Int))) rfl rfl) ?_)
          refine rw_cons (op_pv (w0 rfl) rfl rfl (pv_move (v := (.slice Alog nlog clog)) rfl rfl) ?_)
          refine rw_cons (op_pv (w0 rfl) rfl rfl (pv_len Try.underlying34 rfl rfl) ?_)
          refine rw_cons (op_pv (w0 rfl) rfl rfl (pv_lss rfl rfl rfl) ?_)
          refine rw_nil (hK309 _ _ ?_)
          refine hK307 _ _ ?_
          refine cw_cond rfl (fun h310 => ?_) (fun h310 => ?_)
          · -- then
            replace h310 := of_decide_eq_true h310
            refine cw_skip ?_
            refine hK305 _ _ ?_
            refine cw_seq fun K311 hK312 => ?_
            refine cw_block ?_
            refine cw_drawn (fun u => Ch [] w293 u) (.free 0 (.free 1 (.free 2 (.free 3 (.free 4 (.free 5 (.free 6 (.free 7 (.free 8 (.free 9 (.free 10 (.free 11 (.free 12 (.one 13 false (.done))))))))))))))) (by kernel_rfl) (by kernel_rfl) (Ch.refl _ _).drew fun K316 hK317 => ?_
            obtain ⟨w313, hw_, hch314, hsz315⟩ : ∃ w1 : World, w1 = w293.drew ∧ Ch [] w293 w1 ∧ w1.heap.size = w293.heap.size := ⟨_, rfl, (Ch.refl _ _).drew, rfl⟩
            rw [← hw_]; clear hw_
            have hr318 : Ch [] w293 w313 := hch314.sub (fun s hs => by cases hs)
            have hRxs_r := hRxs
            have hRlog_r := hRlog
            have hB8_r := hB8
            have hB15_r := hB15
            have hB257_r := hB257
            have hO272_r := hO272
            have hsz319 := hch314.size
            replace hRxs := hRxs.ch0 hch314
            replace hRlog := hRlog.ch0 hch314
            replace hB8 := hB8.ch0 hch314
            replace hB15 := hB15.ch0 hch314
            replace hB257 := hB257.ch0 hch314
            replace hO272 := hO272.ch0 hch314
            replace hc := hc.step0 hch314
            refine tw_free rfl (w0 rfl) rfl rfl (fun u hu => (pv_fld F25_1 rfl rfl : PV _ _ _ _) u) ?_
            refine tw_free rfl (w0 rfl) rfl rfl (fun u hu => lv_load T23 rfl rfl ((hB257_r.ch hu (by simp)).cellA (i := 1) rfl)) ?_
            refine tw_free rfl (w0 rfl) rfl rfl (fun u hu => (pv_move (v := (.slice Alog nlog clog)) rfl rfl : PV _ _ _ _) u) ?_
            refine tw_free rfl (w0 rfl) rfl rfl (fun u hu => (pv_move (v := (.int .i64 (k : Int))) rfl rfl : PV _ _ _ _) u) ?_
            refine tw_free rfl (w0 rfl) rfl rfl (fun u hu => (pv_idx Try.underlying34 T65 rfl rfl rfl (hRlog.some (k := k) (by omega)) (by omega) (by omega) : PV _ _ _ _) u) ?_
            refine tw_free rfl (w0 rfl) rfl rfl (fun u hu => (pv_fld F65_0 rfl rfl : PV _ _ _ _) u) ?_
            refine tw_free rfl (w0 rfl) rfl rfl (fun u hu => lv_load T3 rfl rfl ((hRlog_r.ch0 hu).cellE (k := k) (j := 0) (by omega) rfl)) ?_
            refine tw_free rfl (w0 rfl) rfl rfl (fun u hu => (pv_move (v := (.slice Alog nlog clog)) rfl rfl : PV _ _ _ _) u) ?_
            refine tw_free rfl (w0 rfl) rfl rfl (fun u hu => (pv_move (v := (.int .i64 (k : Int))) rfl rfl : PV _ _ _ _) u) ?_
            refine tw_free rfl (w0 rfl) rfl rfl (fun u hu => (pv_idx Try.underlying34 T65 rfl rfl rfl (hRlog.some (k := k) (by omega)) (by omega) (by omega) : PV _ _ _ _) u) ?_
            refine tw_free rfl (w0 rfl) rfl rfl (fun u hu => (pv_fld F65_1 rfl rfl : PV _ _ _ _) u) ?_
            refine tw_free rfl (w0 rfl) rfl rfl (fun u hu => lv_load T3 rfl rfl ((hRlog_r.ch0 hu).cellE (k := k) (j := 1) (by omega) rfl)) ?_
            refine tw_free rfl (w0 rfl) rfl rfl (fun u hu => (pv_idx Try.underlying23 T3 rfl rfl rfl ((hO272.rs (fun _ => rfl)).some (k := ((el log k).s).toNat) (by omega)) (by omega) (by omega) : PV _ _ _ _) u) ?_
            refine tw_one rfl (op_store_ownA (k := ((el log k).s).toNat) (off := 0) (el log k).a T3 hO272 (fun _ => rfl) (w0 rfl) rfl rfl rfl rfl rfl (one_all rfl) (by omega) (Nat.le_of_ble_eq_true rfl) rfl ?_)
            rintro w320 hO322 hch321
            have hsz323 := hch321.size
            replace hRxs := hRxs.ch hch321 (hO272.off.le (by omega))
            replace hRlog := hRlog.ch hch321 (hO272.off.le (by omega))
            replace hB8 := hB8.ch hch321 (fun hs => dj_asg hdj295 _ hs rfl)
            replace hB15 := hB15.ch hch321 (fun hs => dj_asg hdj296 _ hs rfl)
            replace hB257 := hB257.ch hch321 (fun hs => dj_asg hdj297 _ hs rfl)
            replace hc := (hO272.off.le (by omega)).step hc hch321
            clear hr318
            clear hO272; have hO272 := hO322; clear hO322
            refine ⟨fun h => (by cases h), ?_⟩
            clear hB15_r
            clear hB257_r
            clear hB8_r
            clear hO272_r
            clear hRlog_r
            clear hRxs_r
            refine tw_done (hK317 _ _ ?_)
            refine hK312 _ _ ?_
            refine cw_region fun K324 hK325 => ?_
            refine rw_cons (op_pv (w0 rfl) rfl rfl (pv_move (v := (.int .i64 (k : Int))) rfl rfl) ?_)
            refine rw_cons (op_pv (w0 rfl) rfl rfl (pv_add rfl rfl rfl (by omega) (by omega)) ?_)
            refine rw_cons (op_pv (w0 rfl) rfl rfl (pv_assign (v := (.int .i64 ((k : Int) + 1))) rfl rfl) ?_)
            refine rw_nil (hK325 _ _ ?_)
            refine hK299 _ _ (k + 1) ⟨(iv (by omega)), rfl, rfl, rfl, rfl, trivial⟩ ⟨?_, hRxs, hRlog, hB8, hB15, hB257, (by rw [runL_snoc xs (by omega)]; exact hO272), hc, (by omega), (dj_asg hdj295), (dj_asg hdj296), (dj_asg hdj297)⟩ ?_
            · omega
            · (first | omega | (simp only []; omega))
          · -- else
            replace h310 := of_decide_eq_false h310
            refine cw_exit ?_
            refine hK288 _ _ ?_
            refine cw_seq fun K326 hK327 => ?_
            refine cw_seq fun K328 hK329 => ?_
            have hrn330 : (runL xs (log.take k)) = (runL xs log) := by rw [el_take_all log k (by omega)]
            rw [hrn330] at hO272
            have hub331 := hO272.lt
            have hrl2 := runL_len log xs
            refine cw_region fun K332 hK333 => ?_
            refine rw_cons (op_lv (w0 rfl) rfl rfl (lv_loadN T25 rfl rfl rfl (fun j v hv => hB257.cellA hv)) ?_)
            refine rw_cons (op_call (w0 rfl) rfl rfl (rc_call C10 rfl rfl) (BaseValid_s (m + (nlog : Int)) _ xs.length _ (runL xs log) _ (hO272.rs (fun _ => rfl)) (by omega)) ?_)
            rintro _ w334 ⟨rfl, hch335⟩
            have hsz336 := hch335.size
            replace hRxs := hRxs.ch0 hch335
            replace hRlog := hRlog.ch0 hch335
            replace hB8 := hB8.ch0 hch335
            replace hB15 := hB15.ch0 hch335
            replace hB257 := hB257.ch0 hch335
            replace hO272 := hO272.ch0 hch335
            replace hc := hc.step0 hch335
            refine rw_cons (op_pv (w0 rfl) rfl rfl (pv_not rfl rfl) ?_)
            refine rw_nil (hK333 _ _ ?_)
            refine hK329 _ _ ?_
            refine cw_cond rfl (fun h337 => ?_) (fun h337 => ?_)
            · -- then
              replace h337 := not_t h337
              replace h337 := dec_f h337
              refine cw_seq fun K338 hK339 => ?_
              refine cw_region fun K340 hK341 => ?_
              refine rw_cons (op_pv (w0 rfl) rfl rfl (pv_build rfl rfl (B25 )) ?_)
              refine rw_cons (op_store_blk T25 hB15 (w0 rfl) rfl rfl rfl rfl rfl (one_all rfl) (Nat.le_of_ble_eq_true rfl) ?_)
              rintro w342 hB344 hch343
              have hsz345 := hch343.size
              replace hRxs := hRxs.ch hch343 (off1 (by omega))
              replace hRlog := hRlog.ch hch343 (off1 (by omega))
              replace hB8 := hB8.ch hch343 (by simp; omega)
              replace hB257 := hB257.ch hch343 (by simp; omega)
              replace hO272 := hO272.ch hch343 (fun s hs => by have := dj_asg hdj296 s hs; simpa using this)
              replace hc := (off1 (by omega)).step hc hch343
              replace hB15 : Blk w342 g13 25 [(.int .i64 0), (.slice none 0 0)] := hB344
              clear hB344
              refine rw_cons (op_pv (w0 rfl) rfl rfl (pv_assign (v := (.bool false)) rfl rfl) ?_)
              refine rw_nil (hK341 _ _ ?_)
              refine hK339 _ _ ?_
              refine cw_ret ?_
              refine finCT T25 rfl rfl rfl (fun j v hv => hB15.cellA hv) ?_
              have hno : ¬RunOK m xs log := by rintro ⟨h1, h2, h3⟩; rw [hlenlog] at h3; first | contradiction | exact absurd h3 (by assumption)
              have he_1 : ([] : List Int) = runV m xs log := (runV_no hno).symm
              exact ⟨_, _, tup2 (agg2 (iv (runM_no hno).symm) (sl_as (Own.nil encI 1 w342 w.heap.size 3) he_1)) (bvf hno), own_as ((Own.nil encI 1 w342 w.heap.size 3).less (by omega)) he_1, hc⟩
            · -- else
              replace h337 := not_f h337
              replace h337 := dec_t h337
              refine cw_skip ?_
              refine hK327 _ _ ?_
              refine cw_seq fun K346 hK347 => ?_
              refine cw_region fun K348 hK349 => ?_
              refine rw_cons (op_lv (w0 rfl) rfl rfl (lv_loadN T25 rfl rfl rfl (fun j v hv => hB257.cellA hv)) ?_)
              refine rw_cons (op_store_blk T25 hB15 (w0 rfl) rfl rfl rfl rfl rfl (one_all rfl) (Nat.le_of_ble_eq_true rfl) ?_)
              rintro w350 hB352 hch351
              have hsz353 := hch351.size
              replace hRxs := hRxs.ch hch351 (off1 (by omega))
              replace hRlog := hRlog.ch hch351 (off1 (by omega))
              replace hB8 := hB8.ch hch351 (by simp; omega)
              replace hB257 := hB257.ch hch351 (by simp; omega)
              replace hO272 := hO272.ch hch351 (fun s hs => by have := dj_asg hdj296 s hs; simpa using this)
              replace hc := (off1 (by omega)).step hc hch351
              replace hB15 : Blk w350 g13 25 [(.int .i64 (m + (nlog : Int))), (.slice A278 xs.length c279)] := hB352
              clear hB352
              refine rw_cons (op_pv (w0 rfl) rfl rfl (pv_assign (v := (.bool true)) rfl rfl) ?_)
              refine rw_nil (hK349 _ _ ?_)
              refine hK347 _ _ ?_
              refine cw_ret ?_
              refine finCT T25 rfl rfl rfl (fun j v hv => hB15.cellA hv) ?_
              have hyes : RunOK m xs log := ⟨by assumption, by assumption, by rw [hlenlog]; assumption⟩
              have he_1 : (runL xs log) = runV m xs log := (runV_yes hyes).symm
              exact ⟨_, _, tup2 (agg2 (iv (by rw [runM_yes hyes, hlenlog])) (sl_as hO272 he_1)) (bvt hyes), own_as (hO272.less (by omega)) he_1, hc⟩
end Go.Proofs.Ytpnenfglogggmaa

/-
  The walk of spec.BaseOf, written by program: each line names the law of one operation. Conditions: those of the theorem.
-/
import Derived.Test.YtpnenfglogggmaaProg
import Derived.Test.YtpnenfglogggmaaNode
import Derived.Test.YtpnenfglogggmaaArr
import Derived.Test.YtpnenfglogggmaaFspecNodeValid
import Derived.Test.YtpnenfglogggmaaFspecl2At
import Derived.KernelRfl
namespace Go.Proofs.Ytpnenfglogggmaa
open Go Go.RowKit
set_option linter.unusedVariables false
set_option linter.unusedSimpArgs false
namespace BaseOf_sF
theorem T3 : TI Try.prog 3 false (.int .i64 0) 1 8 := TI.mk' Try.underlying3 rfl (by kernel_rfl)
theorem T25 : TI Try.prog 25 true (.agg #[.int .i64 0, .slice none 0 0]) 2 32 := TI.mk' Try.underlying25 rfl (by kernel_rfl)
theorem T34 : TI Try.prog 34 false (.slice none 0 0) 1 24 := TI.mk' Try.underlying34 rfl (by kernel_rfl)
theorem T41 : TI Try.prog 41 true (.agg #[.int .i64 0, .slice none 0 0, .int .i64 0]) 3 40 := TI.mk' Try.underlying41 rfl (by kernel_rfl)
theorem T65 : TI Try.prog 65 true (.agg #[.int .i64 0, .int .i64 0]) 2 16 := TI.mk' Try.underlying65 rfl (by kernel_rfl)
theorem F41_1 : FldOK Try.prog 41 1 1 := ⟨_, _, 0, Try.underlying41, rfl, rfl, by kernel_rfl⟩
theorem F41_2 : FldOK Try.prog 41 2 2 := ⟨_, _, 0, Try.underlying41, rfl, rfl, by kernel_rfl⟩
theorem C44 : Callable Try.prog 44 := ⟨_, Try.func44, by kernel_rfl, by kernel_rfl⟩
theorem C45 : Callable Try.prog 45 := ⟨_, Try.func45, by kernel_rfl, by kernel_rfl⟩
theorem B25  (u : World) : (Instr.build 25 #[]).run Try.prog u = .ok (.agg #[.int .i64 0, .slice none 0 0]) u := by kernel_rfl
theorem B25_0I_1SL (a0 : Int) (a1 : Option Addr) (n1 c1 : Nat) (u : World) : (Instr.build 25 #[(0, .int .i64 a0), (1, .slice a1 n1 c1)]).run Try.prog u = .ok (.agg #[.int .i64 a0, .slice a1 n1 c1]) u := by kernel_rfl
end BaseOf_sF
open BaseOf_sF in
set_option maxHeartbeats 4000000 in
theorem BaseOf_s (id : Int) (Alog : Option Addr) (nlog clog : Nat) (log : List Bt) (dn : Int) (w : World) (hRlog : RS encB 2 w w.heap.size Alog nlog log) (hnlog : nlog ≤ clog) (hNlog : nlog ≤ 1099511627776) :
    Fn Try.prog 20 [(.agg #[(.int .i64 id), (.slice Alog nlog clog), (.int .i64 dn)])] w fun v w' => ∃ A_1 c_1 A_2 c_2, v = .tuple #[.agg #[.int .i64 (baseM id log dn), .slice A_1 (baseV id log dn).length c_1], .slice A_2 (restV id log dn).length c_2, .bool (dec (NodeOK id log dn))] ∧ Own encI 1 w' w.heap.size 3 (.slice A_1 (baseV id log dn).length c_1) (baseV id log dn) ∧ Own encB 2 w' w.heap.size 65 (.slice A_2 (restV id log dn).length c_2) (restV id log dn) ∧ (∀ s ∈ obl (.slice A_1 (baseV id log dn).length c_1), s ∉ obl (.slice A_2 (restV id log dn).length c_2)) ∧ Ch [] w w' := by
  have hlenlog := hRlog.len
  refine fn_of (n := 25) Try.func20 rfl rfl rfl rfl ?_
  have hc : Ch [] w w := Ch.refl _ _
  refine cw_seq fun K1 hK2 => ?_
  refine cw_region fun K3 hK4 => ?_
  refine rw_cons (op_box (w0 rfl) rfl rfl rfl rfl ?_)
  rintro g6 w5 hg9 hg10 hB8 hch7
  have hsz11 := hch7.size
  replace hRlog := hRlog.ch0 hch7
  replace hc := hc.step0 hch7
  replace hB8 : Blk w5 g6 41 [(.int .i64 id), (.slice Alog nlog clog), (.int .i64 dn)] := hB8
  refine rw_cons (op_alloc T25 (w0 rfl) rfl rfl rfl ?_)
  rintro g13 w12 hg16 hg17 hB15 hch14
  have hsz18 := hch14.size
  replace hRlog := hRlog.ch0 hch14
  replace hB8 := hB8.ch0 hch14
  replace hc := hc.step0 hch14
  replace hB15 : Blk w12 g13 25 [(.int .i64 0), (.slice none 0 0)] := hB15
  refine rw_cons (op_pv (w0 rfl) rfl rfl (pv_assign (v := (.slice none 0 0)) rfl rfl) ?_)
  refine rw_cons (op_pv (w0 rfl) rfl rfl (pv_assign (v := (.bool false)) rfl rfl) ?_)
  refine rw_nil (hK4 _ _ ?_)
  refine hK2 _ _ ?_
  refine cw_seq fun K19 hK20 => ?_
  refine cw_seq fun K21 hK22 => ?_
  refine cw_region fun K23 hK24 => ?_
  refine rw_cons (op_lv (w0 rfl) rfl rfl (lv_loadN T41 rfl rfl rfl (fun j v hv => hB8.cellA hv)) ?_)
  refine rw_cons (op_call (w0 rfl) rfl rfl (rc_call C44 rfl rfl) (NodeValid_s id _ nlog _ log dn _ (hRlog.more (by omega)) (by omega) (by omega)) ?_)
  rintro _ w25 ⟨rfl, hch26⟩
  have hsz27 := hch26.size
  replace hRlog := hRlog.ch0 hch26
  replace hB8 := hB8.ch0 hch26
  replace hB15 := hB15.ch0 hch26
  replace hc := hc.step0 hch26
  refine rw_cons (op_pv (w0 rfl) rfl rfl (pv_not rfl rfl) ?_)
  refine rw_nil (hK24 _ _ ?_)
  refine hK22 _ _ ?_
  refine cw_cond rfl (fun h28 => ?_) (fun h28 => ?_)
  · -- then
    replace h28 := not_t h28
    replace h28 := dec_f h28
    refine cw_seq fun K29 hK30 => ?_
    refine cw_region fun K31 hK32 => ?_
    refine rw_cons (op_pv (w0 rfl) rfl rfl (pv_build rfl rfl (B25 )) ?_)
    refine rw_cons (op_bslice [] Try.underlying34 T65 (w0 rfl) rfl rfl rfl rfl rfl (by simp [Value.cells]) (by decide) ?_)
    intro g34 w33 hg37 hg38 hK36 hch35
    have hO39 : Own encB 2 w33 w25.heap.size 65 (.slice (some ⟨g34, 0, none⟩) 0 0) ([] : List Bt) := Blk.own (xs := ([] : List Bt)) hK36 (by omega) rfl (by decide) rfl
    have hsz40 := hch35.size
    replace hRlog := hRlog.ch0 hch35
    replace hB8 := hB8.ch0 hch35
    replace hB15 := hB15.ch0 hch35
    replace hc := hc.step0 hch35
    have hub41 := hO39.lt
    refine rw_cons (op_store_blk T25 hB15 (w0 rfl) rfl rfl rfl rfl rfl (one_all rfl) (Nat.le_of_ble_eq_true rfl) ?_)
    rintro w42 hB44 hch43
    have hsz45 := hch43.size
    replace hRlog := hRlog.ch hch43 (off1 (by omega))
    replace hB8 := hB8.ch hch43 (by simp; omega)
    replace hO39 := hO39.ch hch43 (fun s hs => by first | (have := hO39.off s hs; simp; omega) | (have := hub41 s hs; simp; omega))
    replace hc := (off1 (by omega)).step hc hch43
    replace hB15 : Blk w42 g13 25 [(.int .i64 0), (.slice none 0 0)] := hB44
    clear hB44
    refine rw_cons (op_pv (w0 rfl) rfl rfl (pv_assign (v := (.slice (some ⟨g34, 0, none⟩) 0 0)) rfl rfl) ?_)
    refine rw_cons (op_pv (w0 rfl) rfl rfl (pv_assign (v := (.bool false)) rfl rfl) ?_)
    refine rw_nil (hK32 _ _ ?_)
    refine hK30 _ _ ?_
    refine cw_ret ?_
    refine finCTT T25 rfl rfl rfl rfl (fun j v hv => hB15.cellA hv) ?_
    have hno : ¬NodeOK id log dn := by assumption
    have he_1 : ([] : List Int) = baseV id log dn := (baseV_no hno).symm
    have he_2 : ([] : List Bt) = restV id log dn := (restV_no hno).symm
    exact ⟨_, _, _, _, tup3 (agg2 (iv (baseM_no hno).symm) (sl_as (Own.nil encI 1 w42 w.heap.size 3) he_1)) (sl_as hO39 he_2) (bvf hno), own_as ((Own.nil encI 1 w42 w.heap.size 3).less (by omega)) he_1, own_as (hO39.less (by omega)) he_2, (dj_as (show ∀ s ∈ obl (.slice none 0 0), s ∉ obl (.slice (some ⟨g34, 0, none⟩) 0 0) from fun s hs hs2 => by first | (simp [obl, Value.ownBlock] at hs; done) | (simp [obl, Value.ownBlock] at hs2; done))), hc⟩
  · -- else
    replace h28 := not_f h28
    replace h28 := dec_t h28
    refine cw_skip ?_
    refine hK20 _ _ ?_
    refine cw_seq fun K46 hK47 => ?_
    have hdn := (‹NodeOK id log dn›).2.2
    refine cw_drawn (fun u => Ch [g13] w25 u) (.free 0 (.free 1 (.free 2 (.free 3 (.free 4 (.free 5 (.free 9 (.free 10 (.free 11 (.free 12 (.free 13 (.two 6 true (.free 7 (.one 8 true (.one 14 true (.one 15 true (.free 16 (.free 17 (.done))))))) 8 true (.one 6 true (.free 7 (.one 14 true (.one 15 true (.free 16 (.free 17 (.done))))))))))))))))))) (by kernel_rfl) (by kernel_rfl) (Ch.refl _ _).drew fun K51 hK52 => ?_
    obtain ⟨w48, hw_, hch49, hsz50⟩ : ∃ w1 : World, w1 = w25.drew ∧ Ch [] w25 w1 ∧ w1.heap.size = w25.heap.size := ⟨_, rfl, (Ch.refl _ _).drew, rfl⟩
    rw [← hw_]; clear hw_
    have hr53 : Ch [g13] w25 w48 := hch49.sub (fun s hs => by cases hs)
    have hRlog_r := hRlog
    have hB8_r := hB8
    have hB15_r := hB15
    have hsz54 := hch49.size
    replace hRlog := hRlog.ch0 hch49
    replace hB8 := hB8.ch0 hch49
    replace hB15 := hB15.ch0 hch49
    replace hc := hc.step0 hch49
    refine tw_free rfl (w0 rfl) rfl rfl (fun u hu => (pv_fld F41_2 rfl rfl : PV _ _ _ _) u) ?_
    refine tw_free rfl (w0 rfl) rfl rfl (fun u hu => lv_load T3 rfl rfl ((hB8_r.ch hu (by simp; omega)).cellA (i := 2) rfl)) ?_
    refine tw_free rfl (w0 rfl) rfl rfl (fun u hu => (pv_fld F41_1 rfl rfl : PV _ _ _ _) u) ?_
    refine tw_free rfl (w0 rfl) rfl rfl (fun u hu => lv_load T34 rfl rfl ((hB8_r.ch hu (by simp; omega)).cellA (i := 1) rfl)) ?_
    refine tw_free rfl (w0 rfl) rfl rfl (fun u hu => (pv_fld F41_2 rfl rfl : PV _ _ _ _) u) ?_
    refine tw_free rfl (w0 rfl) rfl rfl (fun u hu => lv_load T3 rfl rfl ((hB8_r.ch hu (by simp; omega)).cellA (i := 2) rfl)) ?_
    refine tw_free rfl (w0 rfl) rfl rfl (fun u hu => (pv_fld F41_1 rfl rfl : PV _ _ _ _) u) ?_
    refine tw_free rfl (w0 rfl) rfl rfl (fun u hu => lv_load T34 rfl rfl ((hB8_r.ch hu (by simp; omega)).cellA (i := 1) rfl)) ?_
    refine tw_free rfl (w0 rfl) rfl rfl (fun u hu => (pv_fld F41_2 rfl rfl : PV _ _ _ _) u) ?_
    refine tw_free rfl (w0 rfl) rfl rfl (fun u hu => lv_load T3 rfl rfl ((hB8_r.ch hu (by simp; omega)).cellA (i := 2) rfl)) ?_
    refine tw_free rfl (w0 rfl) rfl rfl (fun u hu => (pv_from Try.underlying34 T65 rfl rfl rfl (by omega) (by omega) : PV _ _ _ _) u) ?_
    have hR55 : RS encB 2 w48 w.heap.size (if clog = (dn).toNat then Alog else (Alog : Option Addr).map (·.add ((dn).toNat * 2))) (nlog - (dn).toNat) (log.drop (dn).toNat) := (hRlog).from (by omega) (by omega)
    refine tw_two rfl rfl ?_ ?_
    · -- first 6
      refine  (op_call (w0 rfl) rfl rfl (rc_call C45 rfl rfl) (l2At_ok _ nlog _ log dn _ (hRlog.more (by omega)) (by omega) (‹NodeOK _ _ _›).2) ?_)
      rintro _ w56 ⟨A58, c59, rfl, hO60, hch57⟩
      have hsz61 := hch57.size
      replace hRlog := hRlog.ch0 hch57
      replace hB8 := hB8.ch0 hch57
      replace hB15 := hB15.ch0 hch57
      replace hR55 := hR55.ch0 hch57
      replace hc := hc.step0 hch57
      replace hr53 := hr53.step0 hch57
      have hub62 := hO60.lt
      have hcap63 : (runL empty5 (log.take dn.toNat)).length ≤ c59 := by obtain ⟨_, _, hv, h1, _⟩ := hO60.form; injection hv with _ _ h3; omega
      have hnt64 := runL_len (log.take dn.toNat) empty5
      have hnt65 := empty5_len
      refine ⟨fun _ => hr53, ?_⟩
      refine tw_free rfl (w0 rfl) rfl rfl (fun u hu => (pv_build rfl rfl (B25_0I_1SL _ _ _ _) : PV _ _ _ _) u) ?_
      refine tw_one rfl (op_bslice [] Try.underlying34 T65 (w0 rfl) rfl rfl rfl rfl rfl (by simp [Value.cells]) (by decide) ?_)
      intro g67 w66 hg70 hg71 hK69 hch68
      have hO72 : Own encB 2 w66 w56.heap.size 65 (.slice (some ⟨g67, 0, none⟩) 0 0) ([] : List Bt) := Blk.own (xs := ([] : List Bt)) hK69 (by omega) rfl (by decide) rfl
      have hsz73 := hch68.size
      replace hRlog := hRlog.ch0 hch68
      replace hB8 := hB8.ch0 hch68
      replace hB15 := hB15.ch0 hch68
      replace hR55 := hR55.ch0 hch68
      replace hO60 := hO60.ch0 hch68
      replace hc := hc.step0 hch68
      replace hr53 := hr53.step0 hch68
      have hub74 := hO72.lt
      refine ⟨fun _ => hr53, ?_⟩
      have hdj75 : ∀ s ∈ obl (.slice A58 (runL empty5 (log.take dn.toNat)).length c59), s ∉ obl (.slice (some ⟨g67, 0, none⟩) 0 0) := fun s hs hs2 => by first | (have h1 := hub62 s hs; have h2 := hO72.off s hs2; omega) | (simp [obl, Value.ownBlock] at hs; done) | (simp [obl, Value.ownBlock] at hs2; done) | (have h1 := hub62 s hs; simp [obl, Value.ownBlock] at hs2; omega)
      refine tw_one rfl (op_append Try.underlying34 T65 (fun _ => rfl) rfl (by decide) (fun _ => one_all rfl) (w0 rfl) rfl rfl rfl rfl rfl hO72 hR55 (by unfold maxLen; first | omega | (simp; omega)) (by first | omega | (simp; omega)) (by omega) ?_)
      rintro v76 w77 hO78 hch79 hs80
      replace hO78 : Own encB 2 w77 w56.heap.size 65 v76 (log.drop (dn).toNat) := hO78
      have hl81 : (log.drop (dn).toNat).length = 0 + (nlog - (dn).toNat) := by first | (have hl0 := hR55.len; omega) | (have hl0 := hR55.len; simp only [List.length_append, List.length_cons, List.length_nil] at hl0 ⊢; omega) | simp | rfl
      have hsz83 := hch79.size
      replace hRlog := hRlog.ch hch79 (hO72.off.le (by omega))
      replace hB8 := hB8.ch hch79 (by first | (refine hO72.off.not ?_; omega) | (intro hs; have := hub74 _ hs; omega))
      replace hB15 := hB15.ch hch79 (by first | (refine hO72.off.not ?_; omega) | (intro hs; have := hub74 _ hs; omega))
      replace hR55 := hR55.ch hch79 (hO72.off.le (by omega))
      replace hO60 := hO60.ch hch79 (dj_as hdj75)
      replace hc := (hO72.off.le (by omega)).step hc hch79
      replace hr53 := hr53.step hch79 (fun s hs => .inr (by have := hO72.off s hs; omega))
      have hub84 := hO78.lt
      obtain ⟨A85, c86, hv87, hcap88, hcap89⟩ := hO78.form; subst hv87
      have hdj82 : ∀ s ∈ obl (.slice A85 (log.drop (dn).toNat).length c86), s ∉ obl (.slice A58 (runL empty5 (log.take dn.toNat)).length c59) := dj_new hs80 (dj_sw hdj75) (fun s hs => by have := hub62 s hs; omega)
      refine ⟨fun _ => hr53, ?_⟩
      refine tw_one rfl (op_store_blk T25 hB15 (w0 rfl) rfl rfl rfl rfl rfl (one_all rfl) (Nat.le_of_ble_eq_true rfl) ?_)
      rintro w90 hB92 hch91
      have hsz93 := hch91.size
      replace hRlog := hRlog.ch hch91 (off1 (by omega))
      replace hB8 := hB8.ch hch91 (by simp; omega)
      replace hR55 := hR55.ch hch91 (off1 (by omega))
      replace hO60 := hO60.ch hch91 (fun s hs => by first | (have := hO60.off s hs; simp; omega) | (have := hub62 s hs; simp; omega))
      replace hO78 := hO78.ch hch91 (fun s hs => by first | (have := hO78.off s hs; simp; omega) | (have := hub84 s hs; simp; omega))
      replace hc := (off1 (by omega)).step hc hch91
      replace hr53 := hr53.step hch91 (fun s hs => .inl hs)
      replace hB15 : Blk w90 g13 25 [(.int .i64 dn), (.slice A58 (runL empty5 (log.take dn.toNat)).length c59)] := hB92
      clear hB92
      refine ⟨fun _ => hr53, ?_⟩
      refine tw_free rfl (w0 rfl) rfl rfl (fun u hu => (pv_assign (v := (.slice A85 (log.drop (dn).toNat).length c86)) rfl rfl : PV _ _ _ _) u) ?_
      refine tw_free rfl (w0 rfl) rfl rfl (fun u hu => (pv_assign (v := (.bool true)) rfl rfl : PV _ _ _ _) u) ?_
      clear hB15_r
      clear hB8_r
      clear hRlog_r
      refine tw_done (hK52 _ _ ?_)
      refine hK47 _ _ ?_
      refine cw_ret ?_
      refine finCTT T25 rfl rfl rfl rfl (fun j v hv => hB15.cellA hv) ?_
      have hyes : NodeOK id log dn := by assumption
      have he_1 : (runL empty5 (log.take dn.toNat)) = baseV id log dn := by first | (rw [base_state hyes]; done) | (rw [baseV_yes hyes]; done)
      have he_2 : (log.drop (dn).toNat) = restV id log dn := by first | rfl | rw [restV_yes hyes]
      exact ⟨_, _, _, _, tup3 (agg2 (iv (baseM_yes hyes).symm) (sl_as hO60 he_1)) (sl_as hO78 he_2) (bvt hyes), own_as (hO60.less (by omega)) he_1, own_as (hO78.less (by omega)) he_2, (dj_as (show ∀ s ∈ obl (.slice A58 (runL empty5 (log.take dn.toNat)).length c59), s ∉ obl (.slice A85 (log.drop (dn).toNat).length c86) from fun s hs hs2 => by first | exact (dj_sw hdj82) s hs hs2 | (have h1 := hO60.off s hs; have h2 := hub84 s hs2; omega) | (have h1 := hub62 s hs; have h2 := hO78.off s hs2; omega) | (simp [obl, Value.ownBlock] at hs; done) | (simp [obl, Value.ownBlock] at hs2; done) | (have h2 := hub84 s hs2; simp [obl, Value.ownBlock] at hs; omega) | (have h1 := hub62 s hs; simp [obl, Value.ownBlock] at hs2; omega))), hc⟩
    · -- first 8
      refine  (op_bslice [] Try.underlying34 T65 (w0 rfl) rfl rfl rfl rfl rfl (by simp [Value.cells]) (by decide) ?_)
      intro g95 w94 hg98 hg99 hK97 hch96
      have hO100 : Own encB 2 w94 w48.heap.size 65 (.slice (some ⟨g95, 0, none⟩) 0 0) ([] : List Bt) := Blk.own (xs := ([] : List Bt)) hK97 (by omega) rfl (by decide) rfl
      have hsz101 := hch96.size
      replace hRlog := hRlog.ch0 hch96
      replace hB8 := hB8.ch0 hch96
      replace hB15 := hB15.ch0 hch96
      replace hR55 := hR55.ch0 hch96
      replace hc := hc.step0 hch96
      replace hr53 := hr53.step0 hch96
      have hub102 := hO100.lt
      refine ⟨fun _ => hr53, ?_⟩
      refine tw_one rfl (op_call (w0 rfl) rfl rfl (rc_call C45 rfl rfl) (l2At_ok _ nlog _ log dn _ (hRlog.more (by omega)) (by omega) (‹NodeOK _ _ _›).2) ?_)
      rintro _ w103 ⟨A105, c106, rfl, hO107, hch104⟩
      have hsz108 := hch104.size
      replace hRlog := hRlog.ch0 hch104
      replace hB8 := hB8.ch0 hch104
      replace hB15 := hB15.ch0 hch104
      replace hR55 := hR55.ch0 hch104
      replace hO100 := hO100.ch0 hch104
      replace hc := hc.step0 hch104
      replace hr53 := hr53.step0 hch104
      have hub109 := hO107.lt
      have hcap110 : (runL empty5 (log.take dn.toNat)).length ≤ c106 := by obtain ⟨_, _, hv, h1, _⟩ := hO107.form; injection hv with _ _ h3; omega
      have hnt111 := runL_len (log.take dn.toNat) empty5
      have hnt112 := empty5_len
      refine ⟨fun _ => hr53, ?_⟩
      have hdj113 : ∀ s ∈ obl (.slice (some ⟨g95, 0, none⟩) 0 0), s ∉ obl (.slice A105 (runL empty5 (log.take dn.toNat)).length c106) := fun s hs hs2 => by first | (have h1 := hub102 s hs; have h2 := hO107.off s hs2; omega) | (simp [obl, Value.ownBlock] at hs; done) | (simp [obl, Value.ownBlock] at hs2; done) | (have h1 := hub102 s hs; simp [obl, Value.ownBlock] at hs2; omega)
      refine tw_free rfl (w0 rfl) rfl rfl (fun u hu => (pv_build rfl rfl (B25_0I_1SL _ _ _ _) : PV _ _ _ _) u) ?_
      refine tw_one rfl (op_append Try.underlying34 T65 (fun _ => rfl) rfl (by decide) (fun _ => one_all rfl) (w0 rfl) rfl rfl rfl rfl rfl hO100 hR55 (by unfold maxLen; first | omega | (simp; omega)) (by first | omega | (simp; omega)) (by omega) ?_)
      rintro v114 w115 hO116 hch117 hs118
      replace hO116 : Own encB 2 w115 w48.heap.size 65 v114 (log.drop (dn).toNat) := hO116
      have hl119 : (log.drop (dn).toNat).length = 0 + (nlog - (dn).toNat) := by first | (have hl0 := hR55.len; omega) | (have hl0 := hR55.len; simp only [List.length_append, List.length_cons, List.length_nil] at hl0 ⊢; omega) | simp | rfl
      have hsz121 := hch117.size
      replace hRlog := hRlog.ch hch117 (hO100.off.le (by omega))
      replace hB8 := hB8.ch hch117 (by first | (refine hO100.off.not ?_; omega) | (intro hs; have := hub102 _ hs; omega))
      replace hB15 := hB15.ch hch117 (by first | (refine hO100.off.not ?_; omega) | (intro hs; have := hub102 _ hs; omega))
      replace hR55 := hR55.ch hch117 (hO100.off.le (by omega))
      replace hO107 := hO107.ch hch117 (dj_sw hdj113)
      replace hc := (hO100.off.le (by omega)).step hc hch117
      replace hr53 := hr53.step hch117 (fun s hs => .inr (by have := hO100.off s hs; omega))
      have hub122 := hO116.lt
      obtain ⟨A123, c124, hv125, hcap126, hcap127⟩ := hO116.form; subst hv125
      have hdj120 : ∀ s ∈ obl (.slice A123 (log.drop (dn).toNat).length c124), s ∉ obl (.slice A105 (runL empty5 (log.take dn.toNat)).length c106) := dj_new hs118 (dj_as hdj113) (fun s hs => by have := hub109 s hs; omega)
      refine ⟨fun _ => hr53, ?_⟩
      refine tw_one rfl (op_store_blk T25 hB15 (w0 rfl) rfl rfl rfl rfl rfl (one_all rfl) (Nat.le_of_ble_eq_true rfl) ?_)
      rintro w128 hB130 hch129
      have hsz131 := hch129.size
      replace hRlog := hRlog.ch hch129 (off1 (by omega))
      replace hB8 := hB8.ch hch129 (by simp; omega)
      replace hR55 := hR55.ch hch129 (off1 (by omega))
      replace hO107 := hO107.ch hch129 (fun s hs => by first | (have := hO107.off s hs; simp; omega) | (have := hub109 s hs; simp; omega))
      replace hO116 := hO116.ch hch129 (fun s hs => by first | (have := hO116.off s hs; simp; omega) | (have := hub122 s hs; simp; omega))
      replace hc := (off1 (by omega)).step hc hch129
      replace hr53 := hr53.step hch129 (fun s hs => .inl hs)
      replace hB15 : Blk w128 g13 25 [(.int .i64 dn), (.slice A105 (runL empty5 (log.take dn.toNat)).length c106)] := hB130
      clear hB130
      refine ⟨fun _ => hr53, ?_⟩
      refine tw_free rfl (w0 rfl) rfl rfl (fun u hu => (pv_assign (v := (.slice A123 (log.drop (dn).toNat).length c124)) rfl rfl : PV _ _ _ _) u) ?_
      refine tw_free rfl (w0 rfl) rfl rfl (fun u hu => (pv_assign (v := (.bool true)) rfl rfl : PV _ _ _ _) u) ?_
      clear hB15_r
      clear hB8_r
      clear hRlog_r
      refine tw_done (hK52 _ _ ?_)
      refine hK47 _ _ ?_
      refine cw_ret ?_
      refine finCTT T25 rfl rfl rfl rfl (fun j v hv => hB15.cellA hv) ?_
      have hyes : NodeOK id log dn := by assumption
      have he_1 : (runL empty5 (log.take dn.toNat)) = baseV id log dn := by first | (rw [base_state hyes]; done) | (rw [baseV_yes hyes]; done)
      have he_2 : (log.drop (dn).toNat) = restV id log dn := by first | rfl | rw [restV_yes hyes]
      exact ⟨_, _, _, _, tup3 (agg2 (iv (baseM_yes hyes).symm) (sl_as hO107 he_1)) (sl_as hO116 he_2) (bvt hyes), own_as (hO107.less (by omega)) he_1, own_as (hO116.less (by omega)) he_2, (dj_as (show ∀ s ∈ obl (.slice A105 (runL empty5 (log.take dn.toNat)).length c106), s ∉ obl (.slice A123 (log.drop (dn).toNat).length c124) from fun s hs hs2 => by first | exact (dj_sw hdj120) s hs hs2 | (have h1 := hO107.off s hs; have h2 := hub122 s hs2; omega) | (have h1 := hub109 s hs; have h2 := hO116.off s hs2; omega) | (simp [obl, Value.ownBlock] at hs; done) | (simp [obl, Value.ownBlock] at hs2; done) | (have h2 := hub122 s hs2; simp [obl, Value.ownBlock] at hs; omega) | (have h1 := hub109 s hs; simp [obl, Value.ownBlock] at hs2; omega))), hc⟩
end Go.Proofs.Ytpnenfglogggmaa

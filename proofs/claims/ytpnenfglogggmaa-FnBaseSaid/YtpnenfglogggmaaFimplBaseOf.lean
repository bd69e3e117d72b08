/-
  The walk of impl.BaseOf, written by program: each line names the law of one operation. Conditions: those of the theorem.
-/
import Derived.Test.YtpnenfglogggmaaProg
import Derived.Test.YtpnenfglogggmaaNode
import Derived.Test.YtpnenfglogggmaaArr
import Derived.Test.YtpnenfglogggmaaFimplNodeValid
import Derived.Test.YtpnenfglogggmaaFimplStateAt
import Derived.Test.YtpnenfglogggmaaFimplNodePending
import Derived.KernelRfl
namespace Go.Proofs.Ytpnenfglogggmaa
open Go Go.RowKit
set_option linter.unusedVariables false
set_option linter.unusedSimpArgs false
namespace BaseOf_iF
theorem T3 : TI Try.prog 3 false (.int .i64 0) 1 8 := TI.mk' Try.underlying3 rfl (by kernel_rfl)
theorem T25 : TI Try.prog 25 true (.agg #[.int .i64 0, .slice none 0 0]) 2 32 := TI.mk' Try.underlying25 rfl (by kernel_rfl)
theorem T34 : TI Try.prog 34 false (.slice none 0 0) 1 24 := TI.mk' Try.underlying34 rfl (by kernel_rfl)
theorem T41 : TI Try.prog 41 true (.agg #[.int .i64 0, .slice none 0 0, .int .i64 0]) 3 40 := TI.mk' Try.underlying41 rfl (by kernel_rfl)
theorem T65 : TI Try.prog 65 true (.agg #[.int .i64 0, .int .i64 0]) 2 16 := TI.mk' Try.underlying65 rfl (by kernel_rfl)
theorem F41_1 : FldOK Try.prog 41 1 1 := ⟨_, _, 0, Try.underlying41, rfl, rfl, by kernel_rfl⟩
theorem F41_2 : FldOK Try.prog 41 2 2 := ⟨_, _, 0, Try.underlying41, rfl, rfl, by kernel_rfl⟩
theorem C23 : Callable Try.prog 23 := ⟨_, Try.func23, by kernel_rfl, by kernel_rfl⟩
theorem C24 : Callable Try.prog 24 := ⟨_, Try.func24, by kernel_rfl, by kernel_rfl⟩
theorem C43 : Callable Try.prog 43 := ⟨_, Try.func43, by kernel_rfl, by kernel_rfl⟩
theorem B25  (u : World) : (Instr.build 25 #[]).run Try.prog u = .ok (.agg #[.int .i64 0, .slice none 0 0]) u := by kernel_rfl
theorem B25_0I_1SL (a0 : Int) (a1 : Option Addr) (n1 c1 : Nat) (u : World) : (Instr.build 25 #[(0, .int .i64 a0), (1, .slice a1 n1 c1)]).run Try.prog u = .ok (.agg #[.int .i64 a0, .slice a1 n1 c1]) u := by kernel_rfl
end BaseOf_iF
open BaseOf_iF in
set_option maxHeartbeats 4000000 in
theorem BaseOf_i (id : Int) (Alog : Option Addr) (nlog clog : Nat) (log : List Bt) (dn : Int) (w : World) (hRlog : RS encB 2 w w.heap.size Alog nlog log) (hnlog : nlog ≤ clog) (hNlog : nlog ≤ 1099511627776) :
    Fn Try.prog 19 [(.agg #[(.int .i64 id), (.slice Alog nlog clog), (.int .i64 dn)])] w fun v w' => ∃ A_1 c_1 A_2 c_2, v = .tuple #[.agg #[.int .i64 (baseM id log dn), .slice A_1 (baseV id log dn).length c_1], .slice A_2 (restV id log dn).length c_2, .bool (dec (NodeOK id log dn))] ∧ Own encI 1 w' w.heap.size 3 (.slice A_1 (baseV id log dn).length c_1) (baseV id log dn) ∧ Own encB 2 w' w.heap.size 65 (.slice A_2 (restV id log dn).length c_2) (restV id log dn) ∧ (∀ s ∈ obl (.slice A_1 (baseV id log dn).length c_1), s ∉ obl (.slice A_2 (restV id log dn).length c_2)) ∧ Ch [] w w' := by
  have hlenlog := hRlog.len
  refine fn_of (n := 20) Try.func19 rfl rfl rfl rfl ?_
  have hc : Ch [] w w := Ch.refl _ _
  refine cw_seq fun K1 hK2 => ?_
  refine cw_region fun K3 hK4 => ?_
  refine rw_cons (op_box (w0 rfl) rfl rfl rfl rfl ?_)
  rintro g6 w5 hg9 hg10 hB8 hch7
  have hsz11 := hch7.size
  replace hRlog := hRlog.ch0 hch7
  replace hc := hc.step0 hch7
  replace hB8 : Blk w5 g6 41 [(.int .i64 id), (.slice Alog nlog clog), (.int .i64 dn)] := hB8
  refine rw_cons (op_alloc T25 (w0 rfl) rfl rfl rfl ?_)
  rintro g13 w12 hg16 hg17 hB15 hch14
  have hsz18 := hch14.size
  replace hRlog := hRlog.ch0 hch14
  replace hB8 := hB8.ch0 hch14
  replace hc := hc.step0 hch14
  replace hB15 : Blk w12 g13 25 [(.int .i64 0), (.slice none 0 0)] := hB15
  refine rw_cons (op_pv (w0 rfl) rfl rfl (pv_assign (v := (.slice none 0 0)) rfl rfl) ?_)
  refine rw_cons (op_pv (w0 rfl) rfl rfl (pv_assign (v := (.bool false)) rfl rfl) ?_)
  refine rw_nil (hK4 _ _ ?_)
  refine hK2 _ _ ?_
  refine cw_seq fun K19 hK20 => ?_
  refine cw_seq fun K21 hK22 => ?_
  refine cw_region fun K23 hK24 => ?_
  refine rw_cons (op_lv (w0 rfl) rfl rfl (lv_loadN T41 rfl rfl rfl (fun j v hv => hB8.cellA hv)) ?_)
  refine rw_cons (op_call (w0 rfl) rfl rfl (rc_call C43 rfl rfl) (NodeValid_i id _ nlog _ log dn _ (hRlog.more (by omega)) (by omega) (by omega)) ?_)
  rintro _ w25 ⟨rfl, hch26⟩
  have hsz27 := hch26.size
  replace hRlog := hRlog.ch0 hch26
  replace hB8 := hB8.ch0 hch26
  replace hB15 := hB15.ch0 hch26
  replace hc := hc.step0 hch26
  refine rw_cons (op_pv (w0 rfl) rfl rfl (pv_not rfl rfl) ?_)
  refine rw_nil (hK24 _ _ ?_)
  refine hK22 _ _ ?_
  refine cw_cond rfl (fun h28 => ?_) (fun h28 => ?_)
  · -- then
    replace h28 := not_t h28
    replace h28 := dec_f h28
    refine cw_seq fun K29 hK30 => ?_
    refine cw_region fun K31 hK32 => ?_
    refine rw_cons (op_pv (w0 rfl) rfl rfl (pv_build rfl rfl (B25 )) ?_)
    refine rw_cons (op_bslice [] Try.underlying34 T65 (w0 rfl) rfl rfl rfl rfl rfl (by simp [Value.cells]) (by decide) ?_)
    intro g34 w33 hg37 hg38 hK36 hch35
    have hO39 : Own encB 2 w33 w25.heap.size 65 (.slice (some ⟨g34, 0, none⟩) 0 0) ([] : List Bt) := Blk.own (xs := ([] : List Bt)) hK36 (by omega) rfl (by decide) rfl
    have hsz40 := hch35.size
    replace hRlog := hRlog.ch0 hch35
    replace hB8 := hB8.ch0 hch35
    replace hB15 := hB15.ch0 hch35
    replace hc := hc.step0 hch35
    have hub41 := hO39.lt
    refine rw_cons (op_store_blk T25 hB15 (w0 rfl) rfl rfl rfl rfl rfl (one_all rfl) (Nat.le_of_ble_eq_true rfl) ?_)
    rintro w42 hB44 hch43
    have hsz45 := hch43.size
    replace hRlog := hRlog.ch hch43 (off1 (by omega))
    replace hB8 := hB8.ch hch43 (by simp; omega)
    replace hO39 := hO39.ch hch43 (fun s hs => by first | (have := hO39.off s hs; simp; omega) | (have := hub41 s hs; simp; omega))
    replace hc := (off1 (by omega)).step hc hch43
    replace hB15 : Blk w42 g13 25 [(.int .i64 0), (.slice none 0 0)] := hB44
    clear hB44
    refine rw_cons (op_pv (w0 rfl) rfl rfl (pv_assign (v := (.slice (some ⟨g34, 0, none⟩) 0 0)) rfl rfl) ?_)
    refine rw_cons (op_pv (w0 rfl) rfl rfl (pv_assign (v := (.bool false)) rfl rfl) ?_)
    refine rw_nil (hK32 _ _ ?_)
    refine hK30 _ _ ?_
    refine cw_ret ?_
    refine finCTT T25 rfl rfl rfl rfl (fun j v hv => hB15.cellA hv) ?_
    have hno : ¬NodeOK id log dn := by assumption
    have he_1 : ([] : List Int) = baseV id log dn := (baseV_no hno).symm
    have he_2 : ([] : List Bt) = restV id log dn := (restV_no hno).symm
    exact ⟨_, _, _, _, tup3 (agg2 (iv (baseM_no hno).symm) (sl_as (Own.nil encI 1 w42 w.heap.size 3) he_1)) (sl_as hO39 he_2) (bvf hno), own_as ((Own.nil encI 1 w42 w.heap.size 3).less (by omega)) he_1, own_as (hO39.less (by omega)) he_2, (dj_as (show ∀ s ∈ obl (.slice none 0 0), s ∉ obl (.slice (some ⟨g34, 0, none⟩) 0 0) from fun s hs hs2 => by first | (simp [obl, Value.ownBlock] at hs; done) | (simp [obl, Value.ownBlock] at hs2; done))), hc⟩
  · -- else
    replace h28 := not_f h28
    replace h28 := dec_t h28
    refine cw_skip ?_
    refine hK20 _ _ ?_
    refine cw_seq fun K46 hK47 => ?_
    have hdn := (‹NodeOK id log dn›).2.2
    refine cw_drawn (fun u => Ch [g13] w25 u) (.free 0 (.free 1 (.free 2 (.free 3 (.free 4 (.free 5 (.free 8 (.one 6 true (.free 7 (.one 9 true (.one 10 true (.free 11 (.free 12 (.done)))))))))))))) (by kernel_rfl) (by kernel_rfl) (Ch.refl _ _).drew fun K51 hK52 => ?_
    obtain ⟨w48, hw_, hch49, hsz50⟩ : ∃ w1 : World, w1 = w25.drew ∧ Ch [] w25 w1 ∧ w1.heap.size = w25.heap.size := ⟨_, rfl, (Ch.refl _ _).drew, rfl⟩
    rw [← hw_]; clear hw_
    have hr53 : Ch [g13] w25 w48 := hch49.sub (fun s hs => by cases hs)
    have hRlog_r := hRlog
    have hB8_r := hB8
    have hB15_r := hB15
    have hsz54 := hch49.size
    replace hRlog := hRlog.ch0 hch49
    replace hB8 := hB8.ch0 hch49
    replace hB15 := hB15.ch0 hch49
    replace hc := hc.step0 hch49
    refine tw_free rfl (w0 rfl) rfl rfl (fun u hu => (pv_fld F41_2 rfl rfl : PV _ _ _ _) u) ?_
    refine tw_free rfl (w0 rfl) rfl rfl (fun u hu => lv_load T3 rfl rfl ((hB8_r.ch hu (by simp; omega)).cellA (i := 2) rfl)) ?_
    refine tw_free rfl (w0 rfl) rfl rfl (fun u hu => (pv_fld F41_1 rfl rfl : PV _ _ _ _) u) ?_
    refine tw_free rfl (w0 rfl) rfl rfl (fun u hu => lv_load T34 rfl rfl ((hB8_r.ch hu (by simp; omega)).cellA (i := 1) rfl)) ?_
    refine tw_free rfl (w0 rfl) rfl rfl (fun u hu => (pv_fld F41_2 rfl rfl : PV _ _ _ _) u) ?_
    refine tw_free rfl (w0 rfl) rfl rfl (fun u hu => lv_load T3 rfl rfl ((hB8_r.ch hu (by simp; omega)).cellA (i := 2) rfl)) ?_
    refine tw_free rfl (w0 rfl) rfl rfl (fun u hu => lv_loadN T41 rfl rfl rfl (fun j v hv => (hB8_r.ch hu (by simp; omega)).cellA hv)) ?_
    refine tw_one rfl (op_call (w0 rfl) rfl rfl (rc_call C23 rfl rfl) (StateAt_ok _ nlog _ log dn _ (hRlog.more (by omega)) (by omega) (by omega)) ?_)
    rintro _ w55 ⟨A57, c58, rfl, hO59, hch56⟩
    have hsz60 := hch56.size
    replace hRlog := hRlog.ch0 hch56
    replace hB8 := hB8.ch0 hch56
    replace hB15 := hB15.ch0 hch56
    replace hc := hc.step0 hch56
    replace hr53 := hr53.step0 hch56
    have hub61 := hO59.lt
    have hcap62 : (stateV log dn).length ≤ c58 := by obtain ⟨_, _, hv, h1, _⟩ := hO59.form; injection hv with _ _ h3; omega
    have hnt63 := stateV_le log dn
    refine ⟨fun _ => hr53, ?_⟩
    refine tw_free rfl (w0 rfl) rfl rfl (fun u hu => (pv_build rfl rfl (B25_0I_1SL _ _ _ _) : PV _ _ _ _) u) ?_
    refine tw_one rfl (op_call (w0 rfl) rfl rfl (rc_call C24 rfl rfl) (NodePending_ok id _ nlog _ log dn _ (hRlog.more (by omega)) (by omega) (by omega)) ?_)
    rintro _ w64 ⟨A66, c67, rfl, hO68, hch65⟩
    have hsz69 := hch65.size
    replace hRlog := hRlog.ch0 hch65
    replace hB8 := hB8.ch0 hch65
    replace hB15 := hB15.ch0 hch65
    replace hO59 := hO59.ch0 hch65
    replace hc := hc.step0 hch65
    replace hr53 := hr53.step0 hch65
    have hub70 := hO68.lt
    have hcap71 : (restV id log dn).length ≤ c67 := by obtain ⟨_, _, hv, h1, _⟩ := hO68.form; injection hv with _ _ h3; omega
    have hnt72 := restV_le id log dn
    refine ⟨fun _ => hr53, ?_⟩
    refine tw_one rfl (op_store_blk T25 hB15 (w0 rfl) rfl rfl rfl rfl rfl (one_all rfl) (Nat.le_of_ble_eq_true rfl) ?_)
    rintro w73 hB75 hch74
    have hsz76 := hch74.size
    replace hRlog := hRlog.ch hch74 (off1 (by omega))
    replace hB8 := hB8.ch hch74 (by simp; omega)
    replace hO59 := hO59.ch hch74 (fun s hs => by first | (have := hO59.off s hs; simp; omega) | (have := hub61 s hs; simp; omega))
    replace hO68 := hO68.ch hch74 (fun s hs => by first | (have := hO68.off s hs; simp; omega) | (have := hub70 s hs; simp; omega))
    replace hc := (off1 (by omega)).step hc hch74
    replace hr53 := hr53.step hch74 (fun s hs => .inl hs)
    replace hB15 : Blk w73 g13 25 [(.int .i64 dn), (.slice A57 (stateV log dn).length c58)] := hB75
    clear hB75
    refine ⟨fun _ => hr53, ?_⟩
    refine tw_free rfl (w0 rfl) rfl rfl (fun u hu => (pv_assign (v := (.slice A66 (restV id log dn).length c67)) rfl rfl : PV _ _ _ _) u) ?_
    refine tw_free rfl (w0 rfl) rfl rfl (fun u hu => (pv_assign (v := (.bool true)) rfl rfl : PV _ _ _ _) u) ?_
    clear hB15_r
    clear hB8_r
    clear hRlog_r
    refine tw_done (hK52 _ _ ?_)
    refine hK47 _ _ ?_
    refine cw_ret ?_
    refine finCTT T25 rfl rfl rfl rfl (fun j v hv => hB15.cellA hv) ?_
    have hyes : NodeOK id log dn := by assumption
    have he_1 : (stateV log dn) = baseV id log dn := by first | (rw [base_state hyes]; done) | (rw [baseV_yes hyes]; done)
    have he_2 : (restV id log dn) = restV id log dn := by first | rfl | rw [restV_yes hyes]
    exact ⟨_, _, _, _, tup3 (agg2 (iv (baseM_yes hyes).symm) (sl_as hO59 he_1)) (sl_as hO68 he_2) (bvt hyes), own_as (hO59.less (by omega)) he_1, own_as (hO68.less (by omega)) he_2, (dj_as (show ∀ s ∈ obl (.slice A57 (stateV log dn).length c58), s ∉ obl (.slice A66 (restV id log dn).length c67) from fun s hs hs2 => by first | (have h1 := hO59.off s hs; have h2 := hub70 s hs2; omega) | (have h1 := hub61 s hs; have h2 := hO68.off s hs2; omega) | (simp [obl, Value.ownBlock] at hs; done) | (simp [obl, Value.ownBlock] at hs2; done) | (have h2 := hub70 s hs2; simp [obl, Value.ownBlock] at hs; omega) | (have h1 := hub61 s hs; simp [obl, Value.ownBlock] at hs2; omega))), hc⟩
end Go.Proofs.Ytpnenfglogggmaa

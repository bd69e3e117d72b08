/-
  The walk of spec.l2At, written by program: each line names the law of one operation. Conditions: those of the theorem.
-/
import Derived.Test.YtpnenfglogggmaaProg
import Derived.Test.YtpnenfglogggmaaNode
import Derived.Test.YtpnenfglogggmaaFspecl2Empty
import Derived.KernelRfl
namespace Go.Proofs.Ytpnenfglogggmaa
open Go Go.RowKit
set_option linter.unusedVariables false
set_option linter.unusedSimpArgs false
namespace l2At_okF
theorem T3 : TI Try.prog 3 false (.int .i64 0) 1 8 := TI.mk' Try.underlying3 rfl (by kernel_rfl)
theorem T65 : TI Try.prog 65 true (.agg #[.int .i64 0, .int .i64 0]) 2 16 := TI.mk' Try.underlying65 rfl (by kernel_rfl)
theorem F65_0 : FldOK Try.prog 65 0 0 := ⟨_, _, 0, Try.underlying65, rfl, rfl, by kernel_rfl⟩
theorem F65_1 : FldOK Try.prog 65 1 1 := ⟨_, _, 0, Try.underlying65, rfl, rfl, by kernel_rfl⟩
theorem C54 : Callable Try.prog 54 := ⟨_, Try.func54, by kernel_rfl, by kernel_rfl⟩
end l2At_okF
open l2At_okF in
set_option maxHeartbeats 4000000 in
theorem l2At_ok (Alog : Option Addr) (nlog clog : Nat) (log : List Bt) (dn : Int) (w : World) (hRlog : RS encB 2 w w.heap.size Alog nlog log) (hNlog : nlog ≤ 1099511627776) (hat : AtOK log dn) :
    Fn Try.prog 45 [(.slice Alog nlog clog), (.int .i64 dn)] w fun v w' => ∃ A_0 c_0, v = .slice A_0 (runL empty5 (log.take dn.toNat)).length c_0 ∧ Own encI 1 w' w.heap.size 3 (.slice A_0 (runL empty5 (log.take dn.toNat)).length c_0) (runL empty5 (log.take dn.toNat)) ∧ Ch [] w w' := by
  have hlenlog := hRlog.len
  have hd0 := hat.2
  refine fn_of (n := 26) Try.func45 rfl rfl rfl rfl ?_
  have hc : Ch [] w w := Ch.refl _ _
  refine cw_seq fun K1 hK2 => ?_
  refine cw_region fun K3 hK4 => ?_
  refine rw_cons (op_pv (w0 rfl) rfl rfl (pv_assign (v := (.slice none 0 0)) rfl rfl) ?_)
  refine rw_nil (hK4 _ _ ?_)
  refine hK2 _ _ ?_
  refine cw_seq fun K5 hK6 => ?_
  refine cw_region fun K7 hK8 => ?_
  refine rw_cons (op_call (w0 rfl) rfl rfl (rc_call C54 rfl rfl) (l2Empty_ok  _ ) ?_)
  rintro _ w9 ⟨A11, c12, rfl, hO13, hch10⟩
  have hsz14 := hch10.size
  replace hRlog := hRlog.ch0 hch10
  replace hc := hc.step0 hch10
  have hub15 := hO13.lt
  have hcap16 : empty5.length ≤ c12 := by obtain ⟨_, _, hv, h1, _⟩ := hO13.form; injection hv with _ _ h3; omega
  have hnt17 := empty5_len
  refine rw_cons (op_pv (w0 rfl) rfl rfl (pv_assign (v := (.slice A11 empty5.length c12)) rfl rfl) ?_)
  refine rw_nil (hK8 _ _ ?_)
  refine hK6 _ _ ?_
  refine cw_seq fun K18 hK19 => ?_
  refine cw_seq fun K20 hK21 => ?_
  refine cw_region fun K22 hK23 => ?_
  refine rw_cons (op_pv (w0 rfl) rfl rfl (pv_assign (v := (.int .i64 0)) rfl rfl) ?_)
  refine rw_nil (hK23 _ _ ?_)
  refine hK21 _ _ ?_
  refine cw_block ?_
  refine cw_loop (σ := Nat) (fun k => [(6, (.int .i64 (k : Int))), (0, (.slice Alog nlog clog)), (1, (.int .i64 dn)), (4, (.slice none 0 0)), (5, (.slice A11 empty5.length c12))]) (fun k W => ((k : Int) ≤ dn) ∧ RS encB 2 W w.heap.size Alog nlog log ∧ Own encI 1 W w.heap.size 3 (.slice A11 empty5.length c12) (runL empty5 (log.take k)) ∧ Ch [] w W) (fun k => dn.toNat - k) 0 ?_ ?_ ?_
  · exact ⟨rfl, rfl, rfl, rfl, rfl, trivial⟩
  · refine ⟨by omega, hRlog, hO13, hc⟩
  · rintro k J28 w24 ⟨hk, hRlog, hO13, hc⟩ K25 hK26
    have hsz30 := hc.size
    have hub15 := hO13.lt
    have hlk := hat.1.2 k; have hrl := runL_len (log.take k) empty5; have he5 := empty5_len
    refine cw_seq fun K31 hK32 => ?_
    refine cw_seq fun K33 hK34 => ?_
    refine cw_region fun K35 hK36 => ?_
    refine rw_cons (op_pv (w0 rfl) rfl rfl (pv_move (v := (.int .i64 (k : Int))) rfl rfl) ?_)
    refine rw_cons (op_pv (w0 rfl) rfl rfl (pv_move (v := (.int .i64 dn)) rfl rfl) ?_)
    refine rw_cons (op_pv (w0 rfl) rfl rfl (pv_lss rfl rfl rfl) ?_)
    refine rw_nil (hK36 _ _ ?_)
    refine hK34 _ _ ?_
    refine cw_cond rfl (fun h37 => ?_) (fun h37 => ?_)
    · -- then
      replace h37 := of_decide_eq_true h37
      refine cw_skip ?_
      refine hK32 _ _ ?_
      refine cw_seq fun K38 hK39 => ?_
      refine cw_block ?_
      refine cw_drawn (fun u => Ch [] w24 u) (.free 0 (.free 1 (.free 2 (.free 3 (.free 4 (.free 5 (.free 6 (.free 7 (.free 8 (.free 9 (.free 10 (.free 11 (.one 12 false (.done)))))))))))))) (by kernel_rfl) (by kernel_rfl) (Ch.refl _ _).drew fun K43 hK44 => ?_
      obtain ⟨w40, hw_, hch41, hsz42⟩ : ∃ w1 : World, w1 = w24.drew ∧ Ch [] w24 w1 ∧ w1.heap.size = w24.heap.size := ⟨_, rfl, (Ch.refl _ _).drew, rfl⟩
      rw [← hw_]; clear hw_
      have hr45 : Ch [] w24 w40 := hch41.sub (fun s hs => by cases hs)
      have hRlog_r := hRlog
      have hO13_r := hO13
      have hsz46 := hch41.size
      replace hRlog := hRlog.ch0 hch41
      replace hO13 := hO13.ch0 hch41
      replace hc := hc.step0 hch41
      refine tw_free rfl (w0 rfl) rfl rfl (fun u hu => (pv_move (v := (.slice A11 empty5.length c12)) rfl rfl : PV _ _ _ _) u) ?_
      refine tw_free rfl (w0 rfl) rfl rfl (fun u hu => (pv_move (v := (.slice Alog nlog clog)) rfl rfl : PV _ _ _ _) u) ?_
      refine tw_free rfl (w0 rfl) rfl rfl (fun u hu => (pv_move (v := (.int .i64 (k : Int))) rfl rfl : PV _ _ _ _) u) ?_
      refine tw_free rfl (w0 rfl) rfl rfl (fun u hu => (pv_idx Try.underlying34 T65 rfl rfl rfl (hRlog.some (k := k) (by omega)) (by omega) (by omega) : PV _ _ _ _) u) ?_
      refine tw_free rfl (w0 rfl) rfl rfl (fun u hu => (pv_fld F65_0 rfl rfl : PV _ _ _ _) u) ?_
      refine tw_free rfl (w0 rfl) rfl rfl (fun u hu => lv_load T3 rfl rfl ((hRlog_r.ch0 hu).cellE (k := k) (j := 0) (by omega) rfl)) ?_
      refine tw_free rfl (w0 rfl) rfl rfl (fun u hu => (pv_move (v := (.slice Alog nlog clog)) rfl rfl : PV _ _ _ _) u) ?_
      refine tw_free rfl (w0 rfl) rfl rfl (fun u hu => (pv_move (v := (.int .i64 (k : Int))) rfl rfl : PV _ _ _ _) u) ?_
      refine tw_free rfl (w0 rfl) rfl rfl (fun u hu => (pv_idx Try.underlying34 T65 rfl rfl rfl (hRlog.some (k := k) (by omega)) (by omega) (by omega) : PV _ _ _ _) u) ?_
      refine tw_free rfl (w0 rfl) rfl rfl (fun u hu => (pv_fld F65_1 rfl rfl : PV _ _ _ _) u) ?_
      refine tw_free rfl (w0 rfl) rfl rfl (fun u hu => lv_load T3 rfl rfl ((hRlog_r.ch0 hu).cellE (k := k) (j := 1) (by omega) rfl)) ?_
      refine tw_free rfl (w0 rfl) rfl rfl (fun u hu => (pv_idx Try.underlying23 T3 rfl rfl rfl ((hO13.rs (fun _ => rfl)).some (k := ((el log k).s).toNat) (by omega)) (by omega) (by omega) : PV _ _ _ _) u) ?_
      refine tw_one rfl (op_store_ownA (k := ((el log k).s).toNat) (off := 0) (el log k).a T3 hO13 (fun _ => rfl) (w0 rfl) rfl rfl rfl rfl rfl (one_all rfl) (by omega) (Nat.le_of_ble_eq_true rfl) rfl ?_)
      rintro w47 hO49 hch48
      have hsz50 := hch48.size
      replace hRlog := hRlog.ch hch48 (hO13.off.le (by omega))
      replace hc := (hO13.off.le (by omega)).step hc hch48
      clear hr45
      clear hO13; have hO13 := hO49; clear hO49
      refine ⟨fun h => (by cases h), ?_⟩
      clear hO13_r
      clear hRlog_r
      refine tw_done (hK44 _ _ ?_)
      refine hK39 _ _ ?_
      refine cw_region fun K51 hK52 => ?_
      refine rw_cons (op_pv (w0 rfl) rfl rfl (pv_move (v := (.int .i64 (k : Int))) rfl rfl) ?_)
      refine rw_cons (op_pv (w0 rfl) rfl rfl (pv_add rfl rfl rfl (by omega) (by omega)) ?_)
      refine rw_cons (op_pv (w0 rfl) rfl rfl (pv_assign (v := (.int .i64 ((k : Int) + 1))) rfl rfl) ?_)
      refine rw_nil (hK52 _ _ ?_)
      refine hK26 _ _ (k + 1) ⟨(iv (by omega)), rfl, rfl, rfl, rfl, trivial⟩ ⟨?_, hRlog, (by rw [runL_snoc empty5 (by omega)]; exact hO13), hc⟩ ?_
      · omega
      · show dn.toNat - (k + 1) < dn.toNat - k; omega
    · -- else
      replace h37 := of_decide_eq_false h37
      refine cw_exit ?_
      refine hK19 _ _ ?_
      refine cw_seq fun K53 hK54 => ?_
      refine cw_region fun K55 hK56 => ?_
      refine rw_cons (op_pv (w0 rfl) rfl rfl (pv_move (v := (.slice A11 empty5.length c12)) rfl rfl) ?_)
      refine rw_cons (op_pv (w0 rfl) rfl rfl (pv_assign (v := (.slice A11 empty5.length c12)) rfl rfl) ?_)
      refine rw_nil (hK56 _ _ ?_)
      refine hK54 _ _ ?_
      refine cw_ret ?_
      refine fin1 rfl ?_
      have he_0 : (runL empty5 (log.take k)) = runL empty5 (log.take dn.toNat) := by rw [show k = dn.toNat by omega]
      exact ⟨_, _, (sl_as hO13 he_0), own_as (hO13.less (by omega)) he_0, hc⟩
end Go.Proofs.Ytpnenfglogggmaa

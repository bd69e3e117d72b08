/-
  The walk of spec.StepsBad, written by program: each line names the law of one operation. Conditions: those of the theorem.
-/
import Derived.Test.YtdnncgapbjnfoaaProg
import Derived.Test.YtdnncgapbjnfoaaFits
import Derived.Test.YtdnncgapbjnfoaaSteps
import Derived.Test.YtdnncgapbjnfoaaNode
import Derived.Test.YtdnncgapbjnfoaaFspecStepsValid
import Derived.Test.YtdnncgapbjnfoaaFspecl2Empty
import Derived.KernelRfl
namespace Go.Proofs.Ytdnncgapbjnfoaa
open Go Go.RowKit
set_option linter.unusedVariables false
set_option linter.unusedSimpArgs false
namespace StepsBad_sF
theorem T3 : TI Try.prog 3 false (.int .i64 0) 1 8 := TI.mk' Try.underlying3 rfl (by kernel_rfl)
theorem T4 : TI Try.prog 4 false (.bool false) 1 1 := TI.mk' Try.underlying4 rfl (by kernel_rfl)
theorem T27 : TI Try.prog 27 true (.agg #[.bool false, .int .i64 0, .int .i64 0]) 3 24 := TI.mk' Try.underlying27 rfl (by kernel_rfl)
theorem F27_0 : FldOK Try.prog 27 0 0 := ⟨_, _, 0, Try.underlying27, rfl, rfl, by kernel_rfl⟩
theorem F27_1 : FldOK Try.prog 27 1 1 := ⟨_, _, 0, Try.underlying27, rfl, rfl, by kernel_rfl⟩
theorem F27_2 : FldOK Try.prog 27 2 2 := ⟨_, _, 0, Try.underlying27, rfl, rfl, by kernel_rfl⟩
theorem C15 : Callable Try.prog 15 := ⟨_, Try.func15, by kernel_rfl, by kernel_rfl⟩
theorem C37 : Callable Try.prog 37 := ⟨_, Try.func37, by kernel_rfl, by kernel_rfl⟩
end StepsBad_sF
open StepsBad_sF in
set_option maxHeartbeats 4000000 in
theorem StepsBad_s (A : Option Addr) (n c : Nat) (hs : List Stp) (w : World) (hR : RS encP 3 w w.heap.size A n hs) (hn : n ≤ 1099511627776) :
    Fn Try.prog 28 [(.slice A n c)] w fun v w' => ∃ r : Int, v = .int .i64 r ∧ (r = -1 ↔ FitsOK hs) ∧ Ch [] w w' := by
  have hlen := hR.len
  refine fn_of (n := 49) Try.func28 rfl rfl rfl rfl ?_
  have hc : Ch [] w w := Ch.refl _ _
  refine cw_seq fun K1 hK2 => ?_
  refine cw_region fun K3 hK4 => ?_
  refine rw_cons (op_pv (w0 rfl) rfl rfl (pv_assign (v := (.int .i64 0)) rfl rfl) ?_)
  refine rw_nil (hK4 _ _ ?_)
  refine hK2 _ _ ?_
  refine cw_seq fun K5 hK6 => ?_
  refine cw_seq fun K7 hK8 => ?_
  refine cw_region fun K9 hK10 => ?_
  refine rw_cons (op_pv (w0 rfl) rfl rfl (pv_move (v := (.slice A n c)) rfl rfl) ?_)
  refine rw_cons (op_call (w0 rfl) rfl rfl (rc_call C15 rfl rfl) (StepsValid_s _ n _ hs _ (hR.more (by omega)) (by omega)) ?_)
  rintro _ w11 ⟨rfl, hch12⟩
  have hsz13 := hch12.size
  replace hR := hR.ch0 hch12
  replace hc := hc.step0 hch12
  refine rw_cons (op_pv (w0 rfl) rfl rfl (pv_not rfl rfl) ?_)
  refine rw_nil (hK10 _ _ ?_)
  refine hK8 _ _ ?_
  refine cw_cond rfl (fun h14 => ?_) (fun h14 => ?_)
  · -- then
    replace h14 := not_t h14
    replace h14 := dec_f h14
    refine cw_seq fun K15 hK16 => ?_
    refine cw_region fun K17 hK18 => ?_
    refine rw_cons (op_pv (w0 rfl) rfl rfl (pv_assign (v := (.int .i64 (-2))) rfl rfl) ?_)
    refine rw_nil (hK18 _ _ ?_)
    refine hK16 _ _ ?_
    refine cw_ret ?_
    refine fin1 rfl ?_
    exact ⟨_, rfl, ⟨fun h => by omega, fun h => absurd h.1 (by assumption)⟩, hc⟩
  · -- else
    replace h14 := not_f h14
    replace h14 := dec_t h14
    refine cw_skip ?_
    refine hK6 _ _ ?_
    refine cw_seq fun K19 hK20 => ?_
    refine cw_region fun K21 hK22 => ?_
    refine rw_cons (op_call (w0 rfl) rfl rfl (rc_call C37 rfl rfl) (l2Empty_ok  _ ) ?_)
    rintro _ w23 ⟨A25, c26, rfl, hO27, hch24⟩
    have hsz28 := hch24.size
    replace hR := hR.ch0 hch24
    replace hc := hc.step0 hch24
    have hub29 := hO27.lt
    have hcap30 : empty5.length ≤ c26 := by obtain ⟨_, _, hv, h1, _⟩ := hO27.form; injection hv with _ _ h3; omega
    have hnt31 := empty5_len
    refine rw_cons (op_pv (w0 rfl) rfl rfl (pv_assign (v := (.slice A25 empty5.length c26)) rfl rfl) ?_)
    refine rw_nil (hK22 _ _ ?_)
    refine hK20 _ _ ?_
    refine cw_seq fun K32 hK33 => ?_
    refine cw_seq fun K34 hK35 => ?_
    refine cw_region fun K36 hK37 => ?_
    refine rw_cons (op_pv (w0 rfl) rfl rfl (pv_assign (v := (.int .i64 0)) rfl rfl) ?_)
    refine rw_nil (hK37 _ _ ?_)
    refine hK35 _ _ ?_
    refine cw_block ?_
    refine cw_loop (σ := Nat) (fun k => [(4, (.int .i64 (k : Int))), (0, (.slice A n c)), (3, (.slice A25 empty5.length c26))]) (fun k W => (k ≤ n ∧ ∀ j, j < k → (el hs j).r = true → el (stAt hs j) (el hs j).k.toNat = (el hs j).v) ∧ RS encP 3 W w.heap.size A n hs ∧ Own encI 1 W w11.heap.size 3 (.slice A25 empty5.length c26) (stAt hs k) ∧ Ch [] w W ∧ w11.heap.size ≤ W.heap.size) (fun k => n - k) 0 ?_ ?_ ?_
    · exact ⟨rfl, rfl, rfl, trivial⟩
    · refine ⟨⟨Nat.zero_le _, fun j hj => by omega⟩, hR, hO27, hc, (by omega)⟩
    · rintro k J43 w38 ⟨⟨hk, hye⟩, hR, hO27, hc, hmono39⟩ K40 hK41
      have hsz45 := hc.size
      have hub29 := hO27.lt
      have hek : k < hs.length → 0 ≤ (el hs k).k ∧ (el hs k).k ≤ 4 := fun h => (stepok_s.1 ((‹StepsOK hs›).each k h)).1
      have hsl := stAt_len hs k
      refine cw_seq fun K46 hK47 => ?_
      refine cw_seq fun K48 hK49 => ?_
      refine cw_region fun K50 hK51 => ?_
      refine rw_cons (op_pv (w0 rfl) rfl rfl (pv_move (v := (.int .i64 (k : Int))) rfl rfl) ?_)
      refine rw_cons (op_pv (w0 rfl) rfl rfl (pv_move (v := (.slice A n c)) rfl rfl) ?_)
      refine rw_cons (op_pv (w0 rfl) rfl rfl (pv_len Try.underlying23 rfl rfl) ?_)
      refine rw_cons (op_pv (w0 rfl) rfl rfl (pv_lss rfl rfl rfl) ?_)
      refine rw_nil (hK51 _ _ ?_)
      refine hK49 _ _ ?_
      refine cw_cond rfl (fun h52 => ?_) (fun h52 => ?_)
      · -- then
        replace h52 := of_decide_eq_true h52
        refine cw_skip ?_
        refine hK47 _ _ ?_
        refine cw_seq fun K53 hK54 => ?_
        refine cw_block ?_
        refine cw_seq fun K55 hK56 => ?_
        refine cw_seq fun K57 hK58 => ?_
        refine cw_drawn (fun u => Ch [] w38 u) (.free 0 (.free 1 (.free 2 (.free 3 (.free 4 (.free 5 (.free 6 (.free 7 (.free 8 (.free 9 (.free 10 (.free 11 (.free 12 (.free 13 (.free 14 (.free 15 (.free 16 (.free 17 (.free 18 (.free 19 (.free 20 (.done)))))))))))))))))))))) (by kernel_rfl) (by kernel_rfl) (Ch.refl _ _).drew fun K62 hK63 => ?_
        obtain ⟨w59, hw_, hch60, hsz61⟩ : ∃ w1 : World, w1 = w38.drew ∧ Ch [] w38 w1 ∧ w1.heap.size = w38.heap.size := ⟨_, rfl, (Ch.refl _ _).drew, rfl⟩
        rw [← hw_]; clear hw_
        have hr64 : Ch [] w38 w59 := hch60.sub (fun s hs => by cases hs)
        have hR_r := hR
        have hO27_r := hO27
        have hsz65 := hch60.size
        replace hR := hR.ch0 hch60
        replace hO27 := hO27.ch0 hch60
        replace hc := hc.step0 hch60
        refine tw_free rfl (w0 rfl) rfl rfl (fun u hu => (pv_move (v := (.slice A n c)) rfl rfl : PV _ _ _ _) u) ?_
        refine tw_free rfl (w0 rfl) rfl rfl (fun u hu => (pv_move (v := (.int .i64 (k : Int))) rfl rfl : PV _ _ _ _) u) ?_
        refine tw_free rfl (w0 rfl) rfl rfl (fun u hu => (pv_idx Try.underlying23 T27 rfl rfl rfl (hR.some (k := k) (by omega)) (by omega) (by omega) : PV _ _ _ _) u) ?_
        refine tw_free rfl (w0 rfl) rfl rfl (fun u hu => (pv_fld F27_0 rfl rfl : PV _ _ _ _) u) ?_
        refine tw_free rfl (w0 rfl) rfl rfl (fun u hu => lv_load T4 rfl rfl ((hR_r.ch0 hu).cellE (k := k) (j := 0) (by omega) rfl)) ?_
        refine tw_free rfl (w0 rfl) rfl rfl (fun u hu => (pv_move (v := (.bool (el hs k).r)) rfl rfl : PV _ _ _ _) u) ?_
        refine tw_split 20 rfl (fun hb66 => ?_) (fun hb66 => ?_)
        · -- yes
          refine tw_free rfl (w1y rfl rfl rfl rfl) rfl rfl (fun u hu => (pv_move (v := (.slice A25 empty5.length c26)) rfl rfl : PV _ _ _ _) u) ?_
          refine tw_free rfl (w1y rfl rfl rfl rfl) rfl rfl (fun u hu => (pv_move (v := (.slice A n c)) rfl rfl : PV _ _ _ _) u) ?_
          refine tw_free rfl (w1y rfl rfl rfl rfl) rfl rfl (fun u hu => (pv_move (v := (.int .i64 (k : Int))) rfl rfl : PV _ _ _ _) u) ?_
          refine tw_free rfl (w1y rfl rfl rfl rfl) rfl rfl (fun u hu => (pv_idx Try.underlying23 T27 rfl rfl rfl (hR.some (k := k) (by omega)) (by omega) (by omega) : PV _ _ _ _) u) ?_
          refine tw_free rfl (w1y rfl rfl rfl rfl) rfl rfl (fun u hu => (pv_fld F27_1 rfl rfl : PV _ _ _ _) u) ?_
          refine tw_free rfl (w1y rfl rfl rfl rfl) rfl rfl (fun u hu => lv_load T3 rfl rfl ((hR_r.ch0 hu).cellE (k := k) (j := 1) (by omega) rfl)) ?_
          refine tw_free rfl (w1y rfl rfl rfl rfl) rfl rfl (fun u hu => (pv_idx Try.underlying42 T3 rfl rfl rfl ((hO27.rs (fun _ => rfl)).some (k := ((el hs k).k).toNat) (by omega)) (by omega) (by omega) : PV _ _ _ _) u) ?_
          refine tw_free rfl (w1y rfl rfl rfl rfl) rfl rfl (fun u hu => lv_load T3 rfl rfl (((hO27_r.ch0 hu).rs (fun _ => rfl)).cell0 (k := ((el hs k).k).toNat) (by omega) rfl)) ?_
          refine tw_free rfl (w1y rfl rfl rfl rfl) rfl rfl (fun u hu => (pv_move (v := (.slice A n c)) rfl rfl : PV _ _ _ _) u) ?_
          refine tw_free rfl (w1y rfl rfl rfl rfl) rfl rfl (fun u hu => (pv_move (v := (.int .i64 (k : Int))) rfl rfl : PV _ _ _ _) u) ?_
          refine tw_free rfl (w1y rfl rfl rfl rfl) rfl rfl (fun u hu => (pv_idx Try.underlying23 T27 rfl rfl rfl (hR.some (k := k) (by omega)) (by omega) (by omega) : PV _ _ _ _) u) ?_
          refine tw_free rfl (w1y rfl rfl rfl rfl) rfl rfl (fun u hu => (pv_fld F27_2 rfl rfl : PV _ _ _ _) u) ?_
          refine tw_free rfl (w1y rfl rfl rfl rfl) rfl rfl (fun u hu => lv_load T3 rfl rfl ((hR_r.ch0 hu).cellE (k := k) (j := 2) (by omega) rfl)) ?_
          refine tw_free rfl (w1y rfl rfl rfl rfl) rfl rfl (fun u hu => (pv_neq rfl rfl rfl : PV _ _ _ _) u) ?_
          refine tw_free rfl (w0 rfl) rfl rfl (fun u hu => (pv_pickT (v := (.bool (decide (((el (stAt hs k) ((el hs k).k).toNat) : Int) ≠ (el hs k).v)))) rfl rfl rfl : PV _ _ _ _) u) ?_
          try clear hO27_r
          try clear hR_r
          refine tw_done (hK63 _ _ ?_)
          refine hK58 _ _ ?_
          refine cw_cond rfl (fun h67 => ?_) (fun h67 => ?_)
          · -- then
            replace h67 := of_decide_eq_true h67
            refine cw_seq fun K68 hK69 => ?_
            refine cw_region fun K70 hK71 => ?_
            refine rw_cons (op_pv (w0 rfl) rfl rfl (pv_move (v := (.int .i64 (k : Int))) rfl rfl) ?_)
            refine rw_cons (op_pv (w0 rfl) rfl rfl (pv_assign (v := (.int .i64 (k : Int))) rfl rfl) ?_)
            refine rw_nil (hK71 _ _ ?_)
            refine hK69 _ _ ?_
            refine cw_ret ?_
            refine fin1 rfl ?_
            exact ⟨_, rfl, ⟨fun h => by omega, fun h => absurd (h.2 k (by omega) (by first | assumption | simp_all)) (by assumption)⟩, hc⟩
          · -- else
            replace h67 := of_decide_eq_false h67
            refine cw_skip ?_
            refine hK56 _ _ ?_
            refine cw_drawn (fun u => Ch (obl (.slice A25 empty5.length c26)) w59 u) (.free 0 (.free 1 (.free 2 (.free 3 (.free 4 (.free 5 (.free 6 (.free 7 (.free 8 (.free 9 (.free 10 (.free 11 (.one 12 false (.done)))))))))))))) (by kernel_rfl) (by kernel_rfl) (Ch.refl _ _).drew fun K75 hK76 => ?_
            obtain ⟨w72, hw_, hch73, hsz74⟩ : ∃ w1 : World, w1 = w59.drew ∧ Ch [] w59 w1 ∧ w1.heap.size = w59.heap.size := ⟨_, rfl, (Ch.refl _ _).drew, rfl⟩
            rw [← hw_]; clear hw_
            have hr77 : Ch (obl (.slice A25 empty5.length c26)) w59 w72 := hch73.sub (fun s hs => by cases hs)
            have hR_r := hR
            have hO27_r := hO27
            have hsz78 := hch73.size
            replace hR := hR.ch0 hch73
            replace hO27 := hO27.ch0 hch73
            replace hc := hc.step0 hch73
            refine tw_free rfl (w0 rfl) rfl rfl (fun u hu => (pv_move (v := (.slice A25 empty5.length c26)) rfl rfl : PV _ _ _ _) u) ?_
            refine tw_free rfl (w0 rfl) rfl rfl (fun u hu => (pv_move (v := (.slice A n c)) rfl rfl : PV _ _ _ _) u) ?_
            refine tw_free rfl (w0 rfl) rfl rfl (fun u hu => (pv_move (v := (.int .i64 (k : Int))) rfl rfl : PV _ _ _ _) u) ?_
            refine tw_free rfl (w0 rfl) rfl rfl (fun u hu => (pv_idx Try.underlying23 T27 rfl rfl rfl (hR.some (k := k) (by omega)) (by omega) (by omega) : PV _ _ _ _) u) ?_
            refine tw_free rfl (w0 rfl) rfl rfl (fun u hu => (pv_fld F27_1 rfl rfl : PV _ _ _ _) u) ?_
            refine tw_free rfl (w0 rfl) rfl rfl (fun u hu => lv_load T3 rfl rfl ((hR_r.ch hu (hO27_r.off.le (by omega))).cellE (k := k) (j := 1) (by omega) rfl)) ?_
            refine tw_free rfl (w0 rfl) rfl rfl (fun u hu => (pv_move (v := (.slice A n c)) rfl rfl : PV _ _ _ _) u) ?_
            refine tw_free rfl (w0 rfl) rfl rfl (fun u hu => (pv_move (v := (.int .i64 (k : Int))) rfl rfl : PV _ _ _ _) u) ?_
            refine tw_free rfl (w0 rfl) rfl rfl (fun u hu => (pv_idx Try.underlying23 T27 rfl rfl rfl (hR.some (k := k) (by omega)) (by omega) (by omega) : PV _ _ _ _) u) ?_
            refine tw_free rfl (w0 rfl) rfl rfl (fun u hu => (pv_fld F27_2 rfl rfl : PV _ _ _ _) u) ?_
            refine tw_free rfl (w0 rfl) rfl rfl (fun u hu => lv_load T3 rfl rfl ((hR_r.ch hu (hO27_r.off.le (by omega))).cellE (k := k) (j := 2) (by omega) rfl)) ?_
            refine tw_free rfl (w0 rfl) rfl rfl (fun u hu => (pv_idx Try.underlying42 T3 rfl rfl rfl ((hO27.rs (fun _ => rfl)).some (k := ((el hs k).k).toNat) (by omega)) (by omega) (by omega) : PV _ _ _ _) u) ?_
            refine tw_one rfl (op_store_ownA (k := ((el hs k).k).toNat) (off := 0) (el hs k).v T3 hO27 (fun _ => rfl) (w0 rfl) rfl rfl rfl rfl rfl (one_all rfl) (by omega) (Nat.le_of_ble_eq_true rfl) rfl ?_)
            rintro w79 hO81 hch80
            have hsz82 := hch80.size
            replace hR := hR.ch hch80 (hO27.off.le (by omega))
            replace hc := (hO27.off.le (by omega)).step hc hch80
            clear hr77
            clear hO27; have hO27 := hO81; clear hO81
            refine ⟨fun h => (by cases h), ?_⟩
            try clear hO27_r
            try clear hR_r
            refine tw_done (hK76 _ _ ?_)
            refine hK54 _ _ ?_
            refine cw_region fun K83 hK84 => ?_
            refine rw_cons (op_pv (w0 rfl) rfl rfl (pv_move (v := (.int .i64 (k : Int))) rfl rfl) ?_)
            refine rw_cons (op_pv (w0 rfl) rfl rfl (pv_add rfl rfl rfl (by omega) (by omega)) ?_)
            refine rw_cons (op_pv (w0 rfl) rfl rfl (pv_assign (v := (.int .i64 ((k : Int) + 1))) rfl rfl) ?_)
            refine rw_nil (hK84 _ _ ?_)
            refine hK41 _ _ (k + 1) ⟨(iv (by omega)), rfl, rfl, trivial⟩ ⟨?_, hR, (by rw [← state_next (by omega) (by omega) (fun h => by first | omega | (exfalso; simp_all; done))]; exact hO27), hc, (by omega)⟩ ?_
            · refine ⟨by omega, fun j hj hr => ?_⟩
              by_cases hjk : j = k
              · subst hjk; first | omega | (exfalso; simp_all; done)
              · exact hye j (by omega) hr
            · (first | omega | (simp only []; omega))
        · -- no
          refine tw_pass rfl (w1n1 rfl rfl rfl rfl) rfl rfl ?_
          refine tw_pass rfl (w1n1 rfl rfl rfl rfl) rfl rfl ?_
          refine tw_pass rfl (w1n1 rfl rfl rfl rfl) rfl rfl ?_
          refine tw_pass rfl (w1n1 rfl rfl rfl rfl) rfl rfl ?_
          refine tw_pass rfl (w1n1 rfl rfl rfl rfl) rfl rfl ?_
          refine tw_pass rfl (w1n1 rfl rfl rfl rfl) rfl rfl ?_
          refine tw_pass rfl (w1n1 rfl rfl rfl rfl) rfl rfl ?_
          refine tw_pass rfl (w1n1 rfl rfl rfl rfl) rfl rfl ?_
          refine tw_pass rfl (w1n1 rfl rfl rfl rfl) rfl rfl ?_
          refine tw_pass rfl (w1n1 rfl rfl rfl rfl) rfl rfl ?_
          refine tw_pass rfl (w1n1 rfl rfl rfl rfl) rfl rfl ?_
          refine tw_pass rfl (w1n1 rfl rfl rfl rfl) rfl rfl ?_
          refine tw_pass rfl (w1n1 rfl rfl rfl rfl) rfl rfl ?_
          refine tw_pass rfl (w1n1 rfl rfl rfl rfl) rfl rfl ?_
          refine tw_free rfl (w0 rfl) rfl rfl (fun u hu => (pv_pickF (v := (.bool false)) rfl rfl rfl : PV _ _ _ _) u) ?_
          try clear hO27_r
          try clear hR_r
          refine tw_done (hK63 _ _ ?_)
          refine hK58 _ _ ?_
          refine cw_cond rfl (fun h85 => ?_) (fun h85 => ?_)
          · -- then
            cases h85
          · -- else
            clear h85
            refine cw_skip ?_
            refine hK56 _ _ ?_
            refine cw_drawn (fun u => Ch (obl (.slice A25 empty5.length c26)) w59 u) (.free 0 (.free 1 (.free 2 (.free 3 (.free 4 (.free 5 (.free 6 (.free 7 (.free 8 (.free 9 (.free 10 (.free 11 (.one 12 false (.done)))))))))))))) (by kernel_rfl) (by kernel_rfl) (Ch.refl _ _).drew fun K89 hK90 => ?_
            obtain ⟨w86, hw_, hch87, hsz88⟩ : ∃ w1 : World, w1 = w59.drew ∧ Ch [] w59 w1 ∧ w1.heap.size = w59.heap.size := ⟨_, rfl, (Ch.refl _ _).drew, rfl⟩
            rw [← hw_]; clear hw_
            have hr91 : Ch (obl (.slice A25 empty5.length c26)) w59 w86 := hch87.sub (fun s hs => by cases hs)
            have hR_r := hR
            have hO27_r := hO27
            have hsz92 := hch87.size
            replace hR := hR.ch0 hch87
            replace hO27 := hO27.ch0 hch87
            replace hc := hc.step0 hch87
            refine tw_free rfl (w0 rfl) rfl rfl (fun u hu => (pv_move (v := (.slice A25 empty5.length c26)) rfl rfl : PV _ _ _ _) u) ?_
            refine tw_free rfl (w0 rfl) rfl rfl (fun u hu => (pv_move (v := (.slice A n c)) rfl rfl : PV _ _ _ _) u) ?_
            refine tw_free rfl (w0 rfl) rfl rfl (fun u hu => (pv_move (v := (.int .i64 (k : Int))) rfl rfl : PV _ _ _ _) u) ?_
            refine tw_free rfl (w0 rfl) rfl rfl (fun u hu => (pv_idx Try.underlying23 T27 rfl rfl rfl (hR.some (k := k) (by omega)) (by omega) (by omega) : PV _ _ _ _) u) ?_
            refine tw_free rfl (w0 rfl) rfl rfl (fun u hu => (pv_fld F27_1 rfl rfl : PV _ _ _ _) u) ?_
            refine tw_free rfl (w0 rfl) rfl rfl (fun u hu => lv_load T3 rfl rfl ((hR_r.ch hu (hO27_r.off.le (by omega))).cellE (k := k) (j := 1) (by omega) rfl)) ?_
            refine tw_free rfl (w0 rfl) rfl rfl (fun u hu => (pv_move (v := (.slice A n c)) rfl rfl : PV _ _ _ _) u) ?_
            refine tw_free rfl (w0 rfl) rfl rfl (fun u hu => (pv_move (v := (.int .i64 (k : Int))) rfl rfl : PV _ _ _ _) u) ?_
            refine tw_free rfl (w0 rfl) rfl rfl (fun u hu => (pv_idx Try.underlying23 T27 rfl rfl rfl (hR.some (k := k) (by omega)) (by omega) (by omega) : PV _ _ _ _) u) ?_
            refine tw_free rfl (w0 rfl) rfl rfl (fun u hu => (pv_fld F27_2 rfl rfl : PV _ _ _ _) u) ?_
            refine tw_free rfl (w0 rfl) rfl rfl (fun u hu => lv_load T3 rfl rfl ((hR_r.ch hu (hO27_r.off.le (by omega))).cellE (k := k) (j := 2) (by omega) rfl)) ?_
            refine tw_free rfl (w0 rfl) rfl rfl (fun u hu => (pv_idx Try.underlying42 T3 rfl rfl rfl ((hO27.rs (fun _ => rfl)).some (k := ((el hs k).k).toNat) (by omega)) (by omega) (by omega) : PV _ _ _ _) u) ?_
            refine tw_one rfl (op_store_ownA (k := ((el hs k).k).toNat) (off := 0) (el hs k).v T3 hO27 (fun _ => rfl) (w0 rfl) rfl rfl rfl rfl rfl (one_all rfl) (by omega) (Nat.le_of_ble_eq_true rfl) rfl ?_)
            rintro w93 hO95 hch94
            have hsz96 := hch94.size
            replace hR := hR.ch hch94 (hO27.off.le (by omega))
            replace hc := (hO27.off.le (by omega)).step hc hch94
            clear hr91
            clear hO27; have hO27 := hO95; clear hO95
            refine ⟨fun h => (by cases h), ?_⟩
            try clear hO27_r
            try clear hR_r
            refine tw_done (hK90 _ _ ?_)
            refine hK54 _ _ ?_
            refine cw_region fun K97 hK98 => ?_
            refine rw_cons (op_pv (w0 rfl) rfl rfl (pv_move (v := (.int .i64 (k : Int))) rfl rfl) ?_)
            refine rw_cons (op_pv (w0 rfl) rfl rfl (pv_add rfl rfl rfl (by omega) (by omega)) ?_)
            refine rw_cons (op_pv (w0 rfl) rfl rfl (pv_assign (v := (.int .i64 ((k : Int) + 1))) rfl rfl) ?_)
            refine rw_nil (hK98 _ _ ?_)
            refine hK41 _ _ (k + 1) ⟨(iv (by omega)), rfl, rfl, trivial⟩ ⟨?_, hR, (by rw [← state_next (by omega) (by omega) (fun h => by first | omega | (exfalso; simp_all; done))]; exact hO27), hc, (by omega)⟩ ?_
            · refine ⟨by omega, fun j hj hr => ?_⟩
              by_cases hjk : j = k
              · subst hjk; first | omega | (exfalso; simp_all; done)
              · exact hye j (by omega) hr
            · (first | omega | (simp only []; omega))
      · -- else
        replace h52 := of_decide_eq_false h52
        refine cw_exit ?_
        refine hK33 _ _ ?_
        refine cw_seq fun K99 hK100 => ?_
        refine cw_region fun K101 hK102 => ?_
        refine rw_cons (op_pv (w0 rfl) rfl rfl (pv_assign (v := (.int .i64 (-1))) rfl rfl) ?_)
        refine rw_nil (hK102 _ _ ?_)
        refine hK100 _ _ ?_
        refine cw_ret ?_
        refine fin1 rfl ?_
        exact ⟨_, rfl, ⟨fun _ => ⟨‹StepsOK hs›, good_of (by omega) hye⟩, fun _ => rfl⟩, hc⟩
end Go.Proofs.Ytdnncgapbjnfoaa

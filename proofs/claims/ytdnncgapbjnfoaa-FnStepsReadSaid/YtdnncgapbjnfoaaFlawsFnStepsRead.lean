/-
  The walk of laws.FnStepsRead, written by program: each line names the law of one operation. Conditions: those of the theorem.
-/
import Derived.Test.YtdnncgapbjnfoaaProg
import Derived.Test.YtdnncgapbjnfoaaFits
import Derived.Test.YtdnncgapbjnfoaaSteps
import Derived.Test.YtdnncgapbjnfoaaNode
import Derived.Test.YtdnncgapbjnfoaaFspecDrawStepsFit
import Derived.Test.YtdnncgapbjnfoaaFimplStepsFit
import Derived.Test.YtdnncgapbjnfoaaFspecStepsFit
import Derived.Test.YtdnncgapbjnfoaaFimplStepsLog
import Derived.Test.YtdnncgapbjnfoaaFimplStateOf
import Derived.KernelRfl
namespace Go.Proofs.Ytdnncgapbjnfoaa
open Go Go.RowKit
set_option linter.unusedVariables false
set_option linter.unusedSimpArgs false
namespace FnStepsRead_okF
theorem T3 : TI Try.prog 3 false (.int .i64 0) 1 8 := TI.mk' Try.underlying3 rfl (by kernel_rfl)
theorem T4 : TI Try.prog 4 false (.bool false) 1 1 := TI.mk' Try.underlying4 rfl (by kernel_rfl)
theorem T27 : TI Try.prog 27 true (.agg #[.bool false, .int .i64 0, .int .i64 0]) 3 24 := TI.mk' Try.underlying27 rfl (by kernel_rfl)
theorem F27_0 : FldOK Try.prog 27 0 0 := ⟨_, _, 0, Try.underlying27, rfl, rfl, by kernel_rfl⟩
theorem F27_1 : FldOK Try.prog 27 1 1 := ⟨_, _, 0, Try.underlying27, rfl, rfl, by kernel_rfl⟩
theorem F27_2 : FldOK Try.prog 27 2 2 := ⟨_, _, 0, Try.underlying27, rfl, rfl, by kernel_rfl⟩
theorem C7 : Callable Try.prog 7 := ⟨_, Try.func7, by kernel_rfl, by kernel_rfl⟩
theorem C8 : Callable Try.prog 8 := ⟨_, Try.func8, by kernel_rfl, by kernel_rfl⟩
theorem C9 : Callable Try.prog 9 := ⟨_, Try.func9, by kernel_rfl, by kernel_rfl⟩
theorem C12 : Callable Try.prog 12 := ⟨_, Try.func12, by kernel_rfl, by kernel_rfl⟩
theorem C24 : Callable Try.prog 24 := ⟨_, Try.func24, by kernel_rfl, by kernel_rfl⟩
end FnStepsRead_okF
open FnStepsRead_okF in
set_option maxHeartbeats 4000000 in
theorem FnStepsRead_ok (A0 : Option Addr) (n0 c0 : Nat) (xs0 : List UInt8) (w : World) (hR0 : RS encU 1 w w.heap.size A0 n0 xs0) (hn0 : n0 ≤ c0) :
    Fn Try.prog 6 [(.slice A0 n0 c0)] w fun v w' => v = .bool true ∧ Ch [] w w' := by
  have hlen0 := hR0.len
  refine fn_of (n := 62) Try.func6 rfl rfl rfl rfl ?_
  have hc : Ch [] w w := Ch.refl _ _
  refine cw_seq fun K1 hK2 => ?_
  refine cw_region fun K3 hK4 => ?_
  refine rw_cons (op_pv (w0 rfl) rfl rfl (pv_assign (v := (.bool false)) rfl rfl) ?_)
  refine rw_nil (hK4 _ _ ?_)
  refine hK2 _ _ ?_
  refine cw_seq fun K5 hK6 => ?_
  refine cw_seq fun K7 hK8 => ?_
  refine cw_region fun K9 hK10 => ?_
  refine rw_cons (op_pv (w0 rfl) rfl rfl (pv_move (v := (.slice A0 n0 c0)) rfl rfl) ?_)
  refine rw_cons (op_pv (w0 rfl) rfl rfl (pv_len Try.underlying22 rfl rfl) ?_)
  refine rw_cons (op_pv (w0 rfl) rfl rfl (pv_gtr rfl rfl rfl) ?_)
  refine rw_nil (hK10 _ _ ?_)
  refine hK8 _ _ ?_
  refine cw_cond rfl (fun h11 => ?_) (fun h11 => ?_)
  · -- then
    replace h11 := of_decide_eq_true h11
    refine cw_seq fun K12 hK13 => ?_
    refine cw_region fun K14 hK15 => ?_
    refine rw_cons (op_pv (w0 rfl) rfl rfl (pv_assign (v := (.bool true)) rfl rfl) ?_)
    refine rw_nil (hK15 _ _ ?_)
    refine hK13 _ _ ?_
    refine cw_ret ?_
    refine fin1 rfl ?_
    first
      | exact ⟨rfl, hc⟩
      | (exfalso; have hgk := hf.2 k (by omega) (by first | assumption | simp_all); omega)
  · -- else
    replace h11 := of_decide_eq_false h11
    refine cw_skip ?_
    refine hK6 _ _ ?_
    refine cw_seq fun K16 hK17 => ?_
    refine cw_region fun K18 hK19 => ?_
    refine rw_cons (op_pv (w0 rfl) rfl rfl (pv_move (v := (.slice A0 n0 c0)) rfl rfl) ?_)
    refine rw_cons (op_call (w0 rfl) rfl rfl (rc_call C7 rfl rfl) (DrawStepsFit_ok _ _ _ _ _ (hR0.more (by omega)) (by omega)) ?_)
    rintro _ w20 ⟨A23, c24, xs22, rfl, hO25, hl27, hch21⟩
    have hsz28 := hch21.size
    replace hR0 := hR0.ch0 hch21
    replace hc := hc.step0 hch21
    have hub26 := hO25.lt
    have hcap29 : xs22.length ≤ c24 := by obtain ⟨_, _, hv, h1, _⟩ := hO25.form; injection hv with _ _ h3; omega
    refine rw_cons (op_pv (w0 rfl) rfl rfl (pv_assign (v := (.slice A23 xs22.length c24)) rfl rfl) ?_)
    refine rw_nil (hK19 _ _ ?_)
    refine hK17 _ _ ?_
    refine cw_seq fun K30 hK31 => ?_
    refine cw_region fun K32 hK33 => ?_
    refine rw_cons (op_pv (w0 rfl) rfl rfl (pv_move (v := (.slice A23 xs22.length c24)) rfl rfl) ?_)
    refine rw_cons (op_call (w0 rfl) rfl rfl (rc_call C8 rfl rfl) (StepsFit_i _ xs22.length _ xs22 _ (hO25.rs (fun _ => rfl)) (by omega)) ?_)
    rintro _ w34 ⟨rfl, hch35⟩
    have hsz36 := hch35.size
    replace hR0 := hR0.ch0 hch35
    replace hO25 := hO25.ch0 hch35
    replace hc := hc.step0 hch35
    refine rw_cons (op_pv (w0 rfl) rfl rfl (pv_assign (v := (.bool (dec (FitsOK xs22)))) rfl rfl) ?_)
    refine rw_nil (hK33 _ _ ?_)
    refine hK31 _ _ ?_
    refine cw_seq fun K37 hK38 => ?_
    refine cw_region fun K39 hK40 => ?_
    refine rw_cons (op_pv (w0 rfl) rfl rfl (pv_move (v := (.slice A23 xs22.length c24)) rfl rfl) ?_)
    refine rw_cons (op_call (w0 rfl) rfl rfl (rc_call C9 rfl rfl) (StepsFit_s _ xs22.length _ xs22 _ (hO25.rs (fun _ => rfl)) (by omega)) ?_)
    rintro _ w41 ⟨rfl, hch42⟩
    have hsz43 := hch42.size
    replace hR0 := hR0.ch0 hch42
    replace hO25 := hO25.ch0 hch42
    replace hc := hc.step0 hch42
    refine rw_cons (op_pv (w0 rfl) rfl rfl (pv_assign (v := (.bool (dec (FitsOK xs22)))) rfl rfl) ?_)
    refine rw_nil (hK40 _ _ ?_)
    refine hK38 _ _ ?_
    refine cw_seq fun K44 hK45 => ?_
    refine cw_seq fun K46 hK47 => ?_
    refine cw_region fun K48 hK49 => ?_
    refine rw_cons (op_pv (w0 rfl) rfl rfl (pv_move (v := (.bool (dec (FitsOK xs22)))) rfl rfl) ?_)
    refine rw_cons (op_pv (w0 rfl) rfl rfl (pv_move (v := (.bool (dec (FitsOK xs22)))) rfl rfl) ?_)
    refine rw_cons (op_pv (w0 rfl) rfl rfl (pv_neBs Try.underlying4 rfl rfl rfl) ?_)
    refine rw_cons (op_pv (w0 rfl) rfl rfl (pv_move (v := (.bool false)) rfl rfl) ?_)
    refine rw_cons (op_pv (w1y rfl rfl rfl rfl) rfl rfl (pv_move (v := (.bool (dec (FitsOK xs22)))) rfl rfl) ?_)
    refine rw_cons (op_pv (w1y rfl rfl rfl rfl) rfl rfl (pv_not rfl rfl) ?_)
    refine rw_cons (op_pv (w0 rfl) rfl rfl (pv_pickF (v := (.bool (!(dec (FitsOK xs22))))) rfl rfl rfl) ?_)
    refine rw_nil (hK49 _ _ ?_)
    refine hK47 _ _ ?_
    refine cw_cond rfl (fun h50 => ?_) (fun h50 => ?_)
    · -- then
      replace h50 := not_t h50
      replace h50 := dec_f h50
      refine cw_seq fun K51 hK52 => ?_
      refine cw_region fun K53 hK54 => ?_
      refine rw_cons (op_pv (w0 rfl) rfl rfl (pv_move (v := (.bool (dec (FitsOK xs22)))) rfl rfl) ?_)
      refine rw_cons (op_pv (w0 rfl) rfl rfl (pv_move (v := (.bool (dec (FitsOK xs22)))) rfl rfl) ?_)
      refine rw_cons (op_pv (w0 rfl) rfl rfl (pv_eqBs Try.underlying4 rfl rfl rfl) ?_)
      refine rw_cons (op_pv (w0 rfl) rfl rfl (pv_assign (v := (.bool true)) rfl rfl) ?_)
      refine rw_nil (hK54 _ _ ?_)
      refine hK52 _ _ ?_
      refine cw_ret ?_
      refine fin1 rfl ?_
      first
        | exact ⟨rfl, hc⟩
        | (exfalso; have hgk := hf.2 k (by omega) (by first | assumption | simp_all); omega)
    · -- else
      replace h50 := not_f h50
      replace h50 := dec_t h50
      refine cw_skip ?_
      refine hK45 _ _ ?_
      refine cw_seq fun K55 hK56 => ?_
      refine cw_seq fun K57 hK58 => ?_
      refine cw_region fun K59 hK60 => ?_
      refine rw_cons (op_pv (w0 rfl) rfl rfl (pv_assign (v := (.int .i64 0)) rfl rfl) ?_)
      refine rw_nil (hK60 _ _ ?_)
      refine hK58 _ _ ?_
      refine cw_block ?_
      refine cw_loop (σ := Nat) (fun k => [(6, (.int .i64 (k : Int))), (3, (.slice A23 xs22.length c24))]) (fun k W => (k ≤ xs22.length) ∧ RS encU 1 W w.heap.size A0 n0 xs0 ∧ Own encP 3 W w.heap.size 27 (.slice A23 xs22.length c24) xs22 ∧ Ch [] w W) (fun k => xs22.length - k) 0 ?_ ?_ ?_
      · exact ⟨rfl, rfl, trivial⟩
      · refine ⟨Nat.zero_le _, hR0, hO25, hc⟩
      · rintro k J65 w61 ⟨hk, hR0, hO25, hc⟩ K62 hK63
        have hsz67 := hc.size
        have hub68 := hO25.lt
        have hf := (‹FitsOK xs22›)
        have hek : k < xs22.length → 0 ≤ (el xs22 k).k ∧ (el xs22 k).k ≤ 4 := fun h => (stepok_s.1 (hf.1.each k h)).1
        have h20 := hf.1.len
        refine cw_seq fun K69 hK70 => ?_
        refine cw_seq fun K71 hK72 => ?_
        refine cw_region fun K73 hK74 => ?_
        refine rw_cons (op_pv (w0 rfl) rfl rfl (pv_move (v := (.int .i64 (k : Int))) rfl rfl) ?_)
        refine rw_cons (op_pv (w0 rfl) rfl rfl (pv_move (v := (.slice A23 xs22.length c24)) rfl rfl) ?_)
        refine rw_cons (op_pv (w0 rfl) rfl rfl (pv_len Try.underlying23 rfl rfl) ?_)
        refine rw_cons (op_pv (w0 rfl) rfl rfl (pv_lss rfl rfl rfl) ?_)
        refine rw_nil (hK74 _ _ ?_)
        refine hK72 _ _ ?_
        refine cw_cond rfl (fun h75 => ?_) (fun h75 => ?_)
        · -- then
          replace h75 := of_decide_eq_true h75
          refine cw_skip ?_
          refine hK70 _ _ ?_
          refine cw_seq fun K76 hK77 => ?_
          refine cw_block ?_
          refine cw_seq fun K78 hK79 => ?_
          refine cw_region fun K80 hK81 => ?_
          refine rw_cons (op_pv (w0 rfl) rfl rfl (pv_move (v := (.slice A23 xs22.length c24)) rfl rfl) ?_)
          refine rw_cons (op_pv (w0 rfl) rfl rfl (pv_move (v := (.int .i64 (k : Int))) rfl rfl) ?_)
          refine rw_cons (op_pv (w0 rfl) rfl rfl (pv_idx Try.underlying23 T27 rfl rfl rfl ((hO25.rs (fun _ => rfl)).some (k := k) (by omega)) (by omega) (by omega)) ?_)
          refine rw_cons (op_pv (w0 rfl) rfl rfl (pv_fld F27_0 rfl rfl) ?_)
          refine rw_cons (op_lv (w0 rfl) rfl rfl (lv_load T4 rfl rfl ((hO25.rs (fun _ => rfl)).cellE (k := k) (j := 0) (by omega) rfl)) ?_)
          refine rw_nil (hK81 _ _ ?_)
          refine hK79 _ _ ?_
          refine cw_cond rfl (fun h82 => ?_) (fun h82 => ?_)
          · -- then
            refine cw_seq fun K83 hK84 => ?_
            refine cw_region fun K85 hK86 => ?_
            refine rw_cons (op_pv (w0 rfl) rfl rfl (pv_move (v := (.slice A23 xs22.length c24)) rfl rfl) ?_)
            refine rw_cons (op_pv (w0 rfl) rfl rfl (pv_move (v := (.int .i64 (k : Int))) rfl rfl) ?_)
            refine rw_cons (op_pv (w0 rfl) rfl rfl (pv_upto Try.underlying23 T27 rfl rfl rfl (by omega) (by omega)) ?_)
            have hR87 : RS encP 3 w61 w61.heap.size A23 k (xs22.take k) := ((hO25.rs (fun _ => rfl))).upto (by omega)
            refine rw_cons (op_call (w0 rfl) rfl rfl (rc_call C12 rfl rfl) (StepsLog_i _ k _ (xs22.take k) _ (hR87.more (by omega)) (by omega)) ?_)
            rintro _ w88 ⟨A90, c91, rfl, hO92, hch89⟩
            have hsz93 := hch89.size
            replace hR0 := hR0.ch0 hch89
            replace hO25 := hO25.ch0 hch89
            replace hR87 := hR87.ch0 hch89
            replace hc := hc.step0 hch89
            have hub94 := hO92.lt
            have hcap95 : (logV (xs22.take k)).length ≤ c91 := by obtain ⟨_, _, hv, h1, _⟩ := hO92.form; injection hv with _ _ h3; omega
            have hnt96 := logV_le (xs22.take k)
            refine rw_cons (op_call (w0 rfl) rfl rfl (rc_call C24 rfl rfl) (StateOf_ok _ (logV (xs22.take k)).length _ (logV (xs22.take k)) _ (hO92.rs (fun _ => rfl)) (by omega) (by omega)) ?_)
            rintro _ w97 ⟨A99, c100, rfl, hO101, hch98⟩
            have hsz102 := hch98.size
            replace hR0 := hR0.ch0 hch98
            replace hO25 := hO25.ch0 hch98
            replace hR87 := hR87.ch0 hch98
            replace hO92 := hO92.ch0 hch98
            replace hc := hc.step0 hch98
            have hub103 := hO101.lt
            have hcap104 : (stateV (logV (xs22.take k)) (logV (xs22.take k)).length).length ≤ c100 := by obtain ⟨_, _, hv, h1, _⟩ := hO101.form; injection hv with _ _ h3; omega
            have hnt105 := stateV_le (logV (xs22.take k)) (logV (xs22.take k)).length
            have hrn106 : (stateV (logV (xs22.take k)) (logV (xs22.take k)).length) = (stAt xs22 k) := state_log hf.1 k
            rw [hrn106] at hO101
            try dsimp only
            try rw [hrn106]
            have hub107 := hO101.lt
            have hsl := stAt_len xs22 k
            refine rw_cons (op_pv (w0 rfl) rfl rfl (pv_assign (v := (.slice A99 (stAt xs22 k).length c100)) rfl rfl) ?_)
            refine rw_nil (hK86 _ _ ?_)
            refine hK84 _ _ ?_
            refine cw_seq fun K108 hK109 => ?_
            refine cw_drawn (fun u => Ch [] w97 u) (.free 0 (.free 1 (.free 2 (.free 3 (.free 4 (.free 5 (.free 6 (.free 7 (.free 8 (.free 9 (.free 10 (.free 11 (.free 12 (.free 13 (.free 14 (.free 15 (.free 16 (.free 17 (.free 18 (.done)))))))))))))))))))) (by kernel_rfl) (by kernel_rfl) (Ch.refl _ _).drew fun K113 hK114 => ?_
            obtain ⟨w110, hw_, hch111, hsz112⟩ : ∃ w1 : World, w1 = w97.drew ∧ Ch [] w97 w1 ∧ w1.heap.size = w97.heap.size := ⟨_, rfl, (Ch.refl _ _).drew, rfl⟩
            rw [← hw_]; clear hw_
            have hr115 : Ch [] w97 w110 := hch111.sub (fun s hs => by cases hs)
            have hR0_r := hR0
            have hO25_r := hO25
            have hR87_r := hR87
            have hO92_r := hO92
            have hO101_r := hO101
            have hsz116 := hch111.size
            replace hR0 := hR0.ch0 hch111
            replace hO25 := hO25.ch0 hch111
            replace hR87 := hR87.ch0 hch111
            replace hO92 := hO92.ch0 hch111
            replace hO101 := hO101.ch0 hch111
            replace hc := hc.step0 hch111
            refine tw_free rfl (w0 rfl) rfl rfl (fun u hu => (pv_move (v := (.slice A99 (stAt xs22 k).length c100)) rfl rfl : PV _ _ _ _) u) ?_
            refine tw_free rfl (w0 rfl) rfl rfl (fun u hu => (pv_len Try.underlying42 rfl rfl : PV _ _ _ _) u) ?_
            refine tw_free rfl (w0 rfl) rfl rfl (fun u hu => (pv_neq rfl rfl rfl : PV _ _ _ _) u) ?_
            refine tw_free rfl (w0 rfl) rfl rfl (fun u hu => (pv_move (v := (.bool (decide ((((stAt xs22 k).length : Int) : Int) ≠ 5)))) rfl rfl : PV _ _ _ _) u) ?_
            refine tw_split 46 rfl (fun hb117 => ?_) (fun hb117 => ?_)
            · -- yes
              replace hb117 := of_decide_eq_true hb117
              refine tw_pass rfl (w1n2 rfl rfl rfl rfl) rfl rfl ?_
              refine tw_pass rfl (w1n2 rfl rfl rfl rfl) rfl rfl ?_
              refine tw_pass rfl (w1n2 rfl rfl rfl rfl) rfl rfl ?_
              refine tw_pass rfl (w1n2 rfl rfl rfl rfl) rfl rfl ?_
              refine tw_pass rfl (w1n2 rfl rfl rfl rfl) rfl rfl ?_
              refine tw_pass rfl (w1n2 rfl rfl rfl rfl) rfl rfl ?_
              refine tw_pass rfl (w1n2 rfl rfl rfl rfl) rfl rfl ?_
              refine tw_pass rfl (w1n2 rfl rfl rfl rfl) rfl rfl ?_
              refine tw_pass rfl (w1n2 rfl rfl rfl rfl) rfl rfl ?_
              refine tw_pass rfl (w1n2 rfl rfl rfl rfl) rfl rfl ?_
              refine tw_pass rfl (w1n2 rfl rfl rfl rfl) rfl rfl ?_
              refine tw_pass rfl (w1n2 rfl rfl rfl rfl) rfl rfl ?_
              refine tw_pass rfl (w1n2 rfl rfl rfl rfl) rfl rfl ?_
              refine tw_pass rfl (w1n2 rfl rfl rfl rfl) rfl rfl ?_
              refine tw_free rfl (w0 rfl) rfl rfl (fun u hu => (pv_pickT (v := (.bool true)) rfl rfl rfl : PV _ _ _ _) u) ?_
              try clear hO101_r
              try clear hO25_r
              try clear hO92_r
              try clear hR0_r
              try clear hR87_r
              refine tw_done (hK114 _ _ ?_)
              refine hK109 _ _ ?_
              refine cw_cond rfl (fun h118 => ?_) (fun h118 => ?_)
              · -- then
                clear h118
                refine cw_seq fun K119 hK120 => ?_
                refine cw_region fun K121 hK122 => ?_
                refine rw_cons (op_pv (w0 rfl) rfl rfl (pv_assign (v := (.bool false)) rfl rfl) ?_)
                refine rw_nil (hK122 _ _ ?_)
                refine hK120 _ _ ?_
                refine cw_ret ?_
                refine fin1 rfl ?_
                first
                  | exact ⟨rfl, hc⟩
                  | (exfalso; have hgk := hf.2 k (by omega) (by first | assumption | simp_all); omega)
              · -- else
                cases h118
            · -- no
              replace hb117 := of_decide_eq_false hb117
              refine tw_free rfl (w1y rfl rfl rfl rfl) rfl rfl (fun u hu => (pv_move (v := (.slice A99 (stAt xs22 k).length c100)) rfl rfl : PV _ _ _ _) u) ?_
              refine tw_free rfl (w1y rfl rfl rfl rfl) rfl rfl (fun u hu => (pv_move (v := (.slice A23 xs22.length c24)) rfl rfl : PV _ _ _ _) u) ?_
              refine tw_free rfl (w1y rfl rfl rfl rfl) rfl rfl (fun u hu => (pv_move (v := (.int .i64 (k : Int))) rfl rfl : PV _ _ _ _) u) ?_
              refine tw_free rfl (w1y rfl rfl rfl rfl) rfl rfl (fun u hu => (pv_idx Try.underlying23 T27 rfl rfl rfl ((hO25.rs (fun _ => rfl)).some (k := k) (by omega)) (by omega) (by omega) : PV _ _ _ _) u) ?_
              refine tw_free rfl (w1y rfl rfl rfl rfl) rfl rfl (fun u hu => (pv_fld F27_1 rfl rfl : PV _ _ _ _) u) ?_
              refine tw_free rfl (w1y rfl rfl rfl rfl) rfl rfl (fun u hu => lv_load T3 rfl rfl (((hO25_r.ch0 hu).rs (fun _ => rfl)).cellE (k := k) (j := 1) (by omega) rfl)) ?_
              refine tw_free rfl (w1y rfl rfl rfl rfl) rfl rfl (fun u hu => (pv_idx Try.underlying42 T3 rfl rfl rfl ((hO101.rs (fun _ => rfl)).some (k := ((el xs22 k).k).toNat) (by omega)) (by omega) (by omega) : PV _ _ _ _) u) ?_
              refine tw_free rfl (w1y rfl rfl rfl rfl) rfl rfl (fun u hu => lv_load T3 rfl rfl (((hO101_r.ch0 hu).rs (fun _ => rfl)).cell0 (k := ((el xs22 k).k).toNat) (by omega) rfl)) ?_
              refine tw_free rfl (w1y rfl rfl rfl rfl) rfl rfl (fun u hu => (pv_move (v := (.slice A23 xs22.length c24)) rfl rfl : PV _ _ _ _) u) ?_
              refine tw_free rfl (w1y rfl rfl rfl rfl) rfl rfl (fun u hu => (pv_move (v := (.int .i64 (k : Int))) rfl rfl : PV _ _ _ _) u) ?_
              refine tw_free rfl (w1y rfl rfl rfl rfl) rfl rfl (fun u hu => (pv_idx Try.underlying23 T27 rfl rfl rfl ((hO25.rs (fun _ => rfl)).some (k := k) (by omega)) (by omega) (by omega) : PV _ _ _ _) u) ?_
              refine tw_free rfl (w1y rfl rfl rfl rfl) rfl rfl (fun u hu => (pv_fld F27_2 rfl rfl : PV _ _ _ _) u) ?_
              refine tw_free rfl (w1y rfl rfl rfl rfl) rfl rfl (fun u hu => lv_load T3 rfl rfl (((hO25_r.ch0 hu).rs (fun _ => rfl)).cellE (k := k) (j := 2) (by omega) rfl)) ?_
              refine tw_free rfl (w1y rfl rfl rfl rfl) rfl rfl (fun u hu => (pv_neq rfl rfl rfl : PV _ _ _ _) u) ?_
              refine tw_free rfl (w0 rfl) rfl rfl (fun u hu => (pv_pickF (v := (.bool (decide (((el (stAt xs22 k) ((el xs22 k).k).toNat) : Int) ≠ (el xs22 k).v)))) rfl rfl rfl : PV _ _ _ _) u) ?_
              try clear hO101_r
              try clear hO25_r
              try clear hO92_r
              try clear hR0_r
              try clear hR87_r
              refine tw_done (hK114 _ _ ?_)
              refine hK109 _ _ ?_
              refine cw_cond rfl (fun h123 => ?_) (fun h123 => ?_)
              · -- then
                replace h123 := of_decide_eq_true h123
                refine cw_seq fun K124 hK125 => ?_
                refine cw_region fun K126 hK127 => ?_
                refine rw_cons (op_pv (w0 rfl) rfl rfl (pv_assign (v := (.bool false)) rfl rfl) ?_)
                refine rw_nil (hK127 _ _ ?_)
                refine hK125 _ _ ?_
                refine cw_ret ?_
                refine fin1 rfl ?_
                first
                  | exact ⟨rfl, hc⟩
                  | (exfalso; have hgk := hf.2 k (by omega) (by first | assumption | simp_all); omega)
              · -- else
                replace h123 := of_decide_eq_false h123
                refine cw_skip ?_
                refine hK77 _ _ ?_
                refine cw_region fun K128 hK129 => ?_
                refine rw_cons (op_pv (w0 rfl) rfl rfl (pv_move (v := (.int .i64 (k : Int))) rfl rfl) ?_)
                refine rw_cons (op_pv (w0 rfl) rfl rfl (pv_add rfl rfl rfl (by omega) (by omega)) ?_)
                refine rw_cons (op_pv (w0 rfl) rfl rfl (pv_assign (v := (.int .i64 ((k : Int) + 1))) rfl rfl) ?_)
                refine rw_nil (hK129 _ _ ?_)
                refine hK63 _ _ (k + 1) ⟨(iv (by omega)), rfl, trivial⟩ ⟨?_, hR0, hO25, hc⟩ ?_
                · omega
                · (first | omega | (simp only []; omega))
          · -- else
            refine cw_skip ?_
            refine hK77 _ _ ?_
            refine cw_region fun K130 hK131 => ?_
            refine rw_cons (op_pv (w0 rfl) rfl rfl (pv_move (v := (.int .i64 (k : Int))) rfl rfl) ?_)
            refine rw_cons (op_pv (w0 rfl) rfl rfl (pv_add rfl rfl rfl (by omega) (by omega)) ?_)
            refine rw_cons (op_pv (w0 rfl) rfl rfl (pv_assign (v := (.int .i64 ((k : Int) + 1))) rfl rfl) ?_)
            refine rw_nil (hK131 _ _ ?_)
            refine hK63 _ _ (k + 1) ⟨(iv (by omega)), rfl, trivial⟩ ⟨?_, hR0, hO25, hc⟩ ?_
            · omega
            · (first | omega | (simp only []; omega))
        · -- else
          replace h75 := of_decide_eq_false h75
          refine cw_exit ?_
          refine hK56 _ _ ?_
          refine cw_seq fun K132 hK133 => ?_
          refine cw_region fun K134 hK135 => ?_
          refine rw_cons (op_pv (w0 rfl) rfl rfl (pv_assign (v := (.bool true)) rfl rfl) ?_)
          refine rw_nil (hK135 _ _ ?_)
          refine hK133 _ _ ?_
          refine cw_ret ?_
          refine fin1 rfl ?_
          first
            | exact ⟨rfl, hc⟩
            | (exfalso; have hgk := hf.2 k (by omega) (by first | assumption | simp_all); omega)
end Go.Proofs.Ytdnncgapbjnfoaa

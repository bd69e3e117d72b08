/-
  The walk of laws.FnStepsPut, written by program: each line names the law of one operation. Conditions: those of the theorem.
-/
import Derived.Test.YtdnncgapbjnfoaaProg
import Derived.Test.YtdnncgapbjnfoaaFits
import Derived.Test.YtdnncgapbjnfoaaSteps
import Derived.Test.YtdnncgapbjnfoaaNode
import Derived.Test.YtdnncgapbjnfoaaFspecDrawStepsFit
import Derived.Test.YtdnncgapbjnfoaaFimplStepsFit
import Derived.Test.YtdnncgapbjnfoaaFspecStepsFit
import Derived.Test.YtdnncgapbjnfoaaFimplStepsValid
import Derived.KernelRfl
namespace Go.Proofs.Ytdnncgapbjnfoaa
open Go Go.RowKit
set_option linter.unusedVariables false
set_option linter.unusedSimpArgs false
namespace FnStepsPut_okF
theorem T27 : TI Try.prog 27 true (.agg #[.bool false, .int .i64 0, .int .i64 0]) 3 24 := TI.mk' Try.underlying27 rfl (by kernel_rfl)
theorem C7 : Callable Try.prog 7 := ⟨_, Try.func7, by kernel_rfl, by kernel_rfl⟩
theorem C8 : Callable Try.prog 8 := ⟨_, Try.func8, by kernel_rfl, by kernel_rfl⟩
theorem C9 : Callable Try.prog 9 := ⟨_, Try.func9, by kernel_rfl, by kernel_rfl⟩
theorem C10 : Callable Try.prog 10 := ⟨_, Try.func10, by kernel_rfl, by kernel_rfl⟩
theorem B27_0B_1I_2I (a0 : Bool) (a1 : Int) (a2 : Int) (u : World) : (Instr.build 27 #[(0, .bool a0), (1, .int .i64 a1), (2, .int .i64 a2)]).run Try.prog u = .ok (.agg #[.bool a0, .int .i64 a1, .int .i64 a2]) u := by kernel_rfl
theorem B27_1I_2I (a1 : Int) (a2 : Int) (u : World) : (Instr.build 27 #[(1, .int .i64 a1), (2, .int .i64 a2)]).run Try.prog u = .ok (.agg #[.bool false, .int .i64 a1, .int .i64 a2]) u := by kernel_rfl
end FnStepsPut_okF
open FnStepsPut_okF in
set_option maxHeartbeats 4000000 in
theorem FnStepsPut_ok (A0 : Option Addr) (n0 c0 : Nat) (xs0 : List UInt8) (w : World) (hR0 : RS encU 1 w w.heap.size A0 n0 xs0) (hn0 : n0 ≤ c0) :
    Fn Try.prog 3 [(.slice A0 n0 c0)] w fun v w' => v = .bool true ∧ Ch [] w w' := by
  have hlen0 := hR0.len
  refine fn_of (n := 63) Try.func3 rfl rfl rfl rfl ?_
  have hc : Ch [] w w := Ch.refl _ _
  refine cw_seq fun K1 hK2 => ?_
  refine cw_region fun K3 hK4 => ?_
  refine rw_cons (op_pv (w0 rfl) rfl rfl (pv_assign (v := (.bool false)) rfl rfl) ?_)
  refine rw_nil (hK4 _ _ ?_)
  refine hK2 _ _ ?_
  refine cw_seq fun K5 hK6 => ?_
  refine cw_seq fun K7 hK8 => ?_
  refine cw_region fun K9 hK10 => ?_
  refine rw_cons (op_pv (w0 rfl) rfl rfl (pv_move (v := (.slice A0 n0 c0)) rfl rfl) ?_)
  refine rw_cons (op_pv (w0 rfl) rfl rfl (pv_len Try.underlying22 rfl rfl) ?_)
  refine rw_cons (op_pv (w0 rfl) rfl rfl (pv_gtr rfl rfl rfl) ?_)
  refine rw_nil (hK10 _ _ ?_)
  refine hK8 _ _ ?_
  refine cw_cond rfl (fun h11 => ?_) (fun h11 => ?_)
  · -- then
    replace h11 := of_decide_eq_true h11
    refine cw_seq fun K12 hK13 => ?_
    refine cw_region fun K14 hK15 => ?_
    refine rw_cons (op_pv (w0 rfl) rfl rfl (pv_assign (v := (.bool true)) rfl rfl) ?_)
    refine rw_nil (hK15 _ _ ?_)
    refine hK13 _ _ ?_
    refine cw_ret ?_
    refine fin1 rfl ?_
    exact ⟨rfl, hc⟩
  · -- else
    replace h11 := of_decide_eq_false h11
    refine cw_skip ?_
    refine hK6 _ _ ?_
    refine cw_seq fun K16 hK17 => ?_
    refine cw_region fun K18 hK19 => ?_
    refine rw_cons (op_pv (w0 rfl) rfl rfl (pv_move (v := (.slice A0 n0 c0)) rfl rfl) ?_)
    refine rw_cons (op_call (w0 rfl) rfl rfl (rc_call C7 rfl rfl) (DrawStepsFit_ok _ _ _ _ _ (hR0.more (by omega)) (by omega)) ?_)
    rintro _ w20 ⟨A23, c24, xs22, rfl, hO25, hl27, hch21⟩
    have hsz28 := hch21.size
    replace hR0 := hR0.ch0 hch21
    replace hc := hc.step0 hch21
    have hub26 := hO25.lt
    have hcap29 : xs22.length ≤ c24 := by obtain ⟨_, _, hv, h1, _⟩ := hO25.form; injection hv with _ _ h3; omega
    refine rw_cons (op_pv (w0 rfl) rfl rfl (pv_assign (v := (.slice A23 xs22.length c24)) rfl rfl) ?_)
    refine rw_nil (hK19 _ _ ?_)
    refine hK17 _ _ ?_
    refine cw_seq fun K30 hK31 => ?_
    refine cw_region fun K32 hK33 => ?_
    refine rw_cons (op_pv (w0 rfl) rfl rfl (pv_move (v := (.slice A23 xs22.length c24)) rfl rfl) ?_)
    refine rw_cons (op_call (w0 rfl) rfl rfl (rc_call C8 rfl rfl) (StepsFit_i _ xs22.length _ xs22 _ (hO25.rs (fun _ => rfl)) (by omega)) ?_)
    rintro _ w34 ⟨rfl, hch35⟩
    have hsz36 := hch35.size
    replace hR0 := hR0.ch0 hch35
    replace hO25 := hO25.ch0 hch35
    replace hc := hc.step0 hch35
    refine rw_cons (op_pv (w0 rfl) rfl rfl (pv_assign (v := (.bool (dec (FitsOK xs22)))) rfl rfl) ?_)
    refine rw_nil (hK33 _ _ ?_)
    refine hK31 _ _ ?_
    refine cw_seq fun K37 hK38 => ?_
    refine cw_region fun K39 hK40 => ?_
    refine rw_cons (op_pv (w0 rfl) rfl rfl (pv_move (v := (.slice A23 xs22.length c24)) rfl rfl) ?_)
    refine rw_cons (op_call (w0 rfl) rfl rfl (rc_call C9 rfl rfl) (StepsFit_s _ xs22.length _ xs22 _ (hO25.rs (fun _ => rfl)) (by omega)) ?_)
    rintro _ w41 ⟨rfl, hch42⟩
    have hsz43 := hch42.size
    replace hR0 := hR0.ch0 hch42
    replace hO25 := hO25.ch0 hch42
    replace hc := hc.step0 hch42
    refine rw_cons (op_pv (w0 rfl) rfl rfl (pv_assign (v := (.bool (dec (FitsOK xs22)))) rfl rfl) ?_)
    refine rw_nil (hK40 _ _ ?_)
    refine hK38 _ _ ?_
    refine cw_seq fun K44 hK45 => ?_
    refine cw_seq fun K46 hK47 => ?_
    refine cw_region fun K48 hK49 => ?_
    refine rw_cons (op_pv (w0 rfl) rfl rfl (pv_move (v := (.bool (dec (FitsOK xs22)))) rfl rfl) ?_)
    refine rw_cons (op_pv (w0 rfl) rfl rfl (pv_move (v := (.bool (dec (FitsOK xs22)))) rfl rfl) ?_)
    refine rw_cons (op_pv (w0 rfl) rfl rfl (pv_neBs Try.underlying4 rfl rfl rfl) ?_)
    refine rw_cons (op_pv (w0 rfl) rfl rfl (pv_move (v := (.bool false)) rfl rfl) ?_)
    refine rw_cons (op_pv (w1y rfl rfl rfl rfl) rfl rfl (pv_move (v := (.bool (dec (FitsOK xs22)))) rfl rfl) ?_)
    refine rw_cons (op_pv (w1y rfl rfl rfl rfl) rfl rfl (pv_not rfl rfl) ?_)
    refine rw_cons (op_pv (w0 rfl) rfl rfl (pv_pickF (v := (.bool (!(dec (FitsOK xs22))))) rfl rfl rfl) ?_)
    refine rw_cons (op_pv (w0 rfl) rfl rfl (pv_move (v := (.bool (!(dec (FitsOK xs22))))) rfl rfl) ?_)
    refine rw_split 26 rfl (fun hb50 => ?_) (fun hb50 => ?_)
    · -- yes
      replace hb50 := not_t hb50
      replace hb50 := dec_f hb50
      refine rw_cons (op_pass (w1n2 rfl rfl rfl rfl) rfl rfl ?_)
      refine rw_cons (op_pass (w1n2 rfl rfl rfl rfl) rfl rfl ?_)
      refine rw_cons (op_pass (w1n2 rfl rfl rfl rfl) rfl rfl ?_)
      refine rw_cons (op_pv (w0 rfl) rfl rfl (pv_pickT (v := (.bool true)) rfl rfl rfl) ?_)
      refine rw_nil (hK49 _ _ ?_)
      refine hK47 _ _ ?_
      refine cw_cond rfl (fun h51 => ?_) (fun h51 => ?_)
      · -- then
        clear h51
        refine cw_seq fun K52 hK53 => ?_
        refine cw_region fun K54 hK55 => ?_
        refine rw_cons (op_pv (w0 rfl) rfl rfl (pv_move (v := (.bool (dec (FitsOK xs22)))) rfl rfl) ?_)
        refine rw_cons (op_pv (w0 rfl) rfl rfl (pv_move (v := (.bool (dec (FitsOK xs22)))) rfl rfl) ?_)
        refine rw_cons (op_pv (w0 rfl) rfl rfl (pv_eqBs Try.underlying4 rfl rfl rfl) ?_)
        refine rw_cons (op_pv (w0 rfl) rfl rfl (pv_assign (v := (.bool true)) rfl rfl) ?_)
        refine rw_nil (hK55 _ _ ?_)
        refine hK53 _ _ ?_
        refine cw_ret ?_
        refine fin1 rfl ?_
        first
          | exact ⟨rfl, hc⟩
          | exact absurd (put_read (‹FitsOK xs22›) (by omega) (‹StepsOK _›)).1 (by assumption)
          | exact ⟨congrArg Value.bool (by rw [dec_no (put_read (‹FitsOK xs22›) (by omega) (‹StepsOK _›)).2]; rfl), hc⟩
      · -- else
        cases h51
    · -- no
      replace hb50 := not_f hb50
      replace hb50 := dec_t hb50
      refine rw_cons (op_pv (w1y rfl rfl rfl rfl) rfl rfl (pv_move (v := (.slice A23 xs22.length c24)) rfl rfl) ?_)
      refine rw_cons (op_pv (w1y rfl rfl rfl rfl) rfl rfl (pv_len Try.underlying23 rfl rfl) ?_)
      refine rw_cons (op_pv (w1y rfl rfl rfl rfl) rfl rfl (pv_gtr rfl rfl rfl) ?_)
      refine rw_cons (op_pv (w0 rfl) rfl rfl (pv_pickF (v := (.bool (decide (17 < (xs22.length : Int))))) rfl rfl rfl) ?_)
      refine rw_nil (hK49 _ _ ?_)
      refine hK47 _ _ ?_
      refine cw_cond rfl (fun h56 => ?_) (fun h56 => ?_)
      · -- then
        replace h56 := of_decide_eq_true h56
        refine cw_seq fun K57 hK58 => ?_
        refine cw_region fun K59 hK60 => ?_
        refine rw_cons (op_pv (w0 rfl) rfl rfl (pv_move (v := (.bool (dec (FitsOK xs22)))) rfl rfl) ?_)
        refine rw_cons (op_pv (w0 rfl) rfl rfl (pv_move (v := (.bool (dec (FitsOK xs22)))) rfl rfl) ?_)
        refine rw_cons (op_pv (w0 rfl) rfl rfl (pv_eqBs Try.underlying4 rfl rfl rfl) ?_)
        refine rw_cons (op_pv (w0 rfl) rfl rfl (pv_assign (v := (.bool true)) rfl rfl) ?_)
        refine rw_nil (hK60 _ _ ?_)
        refine hK58 _ _ ?_
        refine cw_ret ?_
        refine fin1 rfl ?_
        first
          | exact ⟨rfl, hc⟩
          | exact absurd (put_read (‹FitsOK xs22›) (by omega) (‹StepsOK _›)).1 (by assumption)
          | exact ⟨congrArg Value.bool (by rw [dec_no (put_read (‹FitsOK xs22›) (by omega) (‹StepsOK _›)).2]; rfl), hc⟩
      · -- else
        replace h56 := of_decide_eq_false h56
        refine cw_skip ?_
        refine hK45 _ _ ?_
        refine cw_seq fun K61 hK62 => ?_
        refine cw_region fun K63 hK64 => ?_
        refine rw_cons (op_pv (w0 rfl) rfl rfl (pv_build rfl rfl (B27_1I_2I _ _)) ?_)
        refine rw_cons (op_alloc T27 (w0 rfl) rfl rfl rfl ?_)
        rintro g66 w65 hg69 hg70 hB68 hch67
        have hsz71 := hch67.size
        replace hR0 := hR0.ch0 hch67
        replace hO25 := hO25.ch0 hch67
        replace hc := hc.step0 hch67
        replace hB68 : Blk w65 g66 27 [(.bool false), (.int .i64 0), (.int .i64 0)] := hB68
        have hdj72 : ∀ s ∈ obl (.slice A23 xs22.length c24), s ≠ g66 := fun s hs => by have := hub26 s hs; omega
        refine rw_cons (op_store_blk T27 hB68 (w0 rfl) rfl rfl rfl rfl rfl (one_all rfl) (Nat.le_of_ble_eq_true rfl) ?_)
        rintro w73 hB75 hch74
        have hsz76 := hch74.size
        replace hR0 := hR0.ch hch74 (off1 (by omega))
        replace hO25 := hO25.ch hch74 (fun s hs => by have := dj_asg hdj72 s hs; simpa using this)
        replace hc := (off1 (by omega)).step hc hch74
        replace hB68 : Blk w73 g66 27 [(.bool false), (.int .i64 1), (.int .i64 7)] := hB75
        clear hB75
        refine rw_nil (hK64 _ _ ?_)
        refine hK62 _ _ ?_
        refine cw_seq fun K77 hK78 => ?_
        refine cw_region fun K79 hK80 => ?_
        refine rw_cons (op_pv (w0 rfl) rfl rfl (pv_build rfl rfl (B27_0B_1I_2I _ _ _)) ?_)
        refine rw_cons (op_alloc T27 (w0 rfl) rfl rfl rfl ?_)
        rintro g82 w81 hg85 hg86 hB84 hch83
        have hsz87 := hch83.size
        replace hR0 := hR0.ch0 hch83
        replace hO25 := hO25.ch0 hch83
        replace hB68 := hB68.ch0 hch83
        replace hc := hc.step0 hch83
        replace hB84 : Blk w81 g82 27 [(.bool false), (.int .i64 0), (.int .i64 0)] := hB84
        have hdj88 : ∀ s ∈ obl (.slice A23 xs22.length c24), s ≠ g82 := fun s hs => by have := hub26 s hs; omega
        refine rw_cons (op_store_blk T27 hB84 (w0 rfl) rfl rfl rfl rfl rfl (one_all rfl) (Nat.le_of_ble_eq_true rfl) ?_)
        rintro w89 hB91 hch90
        have hsz92 := hch90.size
        replace hR0 := hR0.ch hch90 (off1 (by omega))
        replace hO25 := hO25.ch hch90 (fun s hs => by have := dj_asg hdj88 s hs; simpa using this)
        replace hB68 := hB68.ch hch90 (by simp; omega)
        replace hc := (off1 (by omega)).step hc hch90
        replace hB84 : Blk w89 g82 27 [(.bool true), (.int .i64 1), (.int .i64 7)] := hB91
        clear hB91
        refine rw_nil (hK80 _ _ ?_)
        refine hK78 _ _ ?_
        refine cw_seq fun K93 hK94 => ?_
        refine cw_region fun K95 hK96 => ?_
        refine rw_cons (op_pv (w0 rfl) rfl rfl (pv_build rfl rfl (B27_0B_1I_2I _ _ _)) ?_)
        refine rw_cons (op_alloc T27 (w0 rfl) rfl rfl rfl ?_)
        rintro g98 w97 hg101 hg102 hB100 hch99
        have hsz103 := hch99.size
        replace hR0 := hR0.ch0 hch99
        replace hO25 := hO25.ch0 hch99
        replace hB68 := hB68.ch0 hch99
        replace hB84 := hB84.ch0 hch99
        replace hc := hc.step0 hch99
        replace hB100 : Blk w97 g98 27 [(.bool false), (.int .i64 0), (.int .i64 0)] := hB100
        have hdj104 : ∀ s ∈ obl (.slice A23 xs22.length c24), s ≠ g98 := fun s hs => by have := hub26 s hs; omega
        refine rw_cons (op_store_blk T27 hB100 (w0 rfl) rfl rfl rfl rfl rfl (one_all rfl) (Nat.le_of_ble_eq_true rfl) ?_)
        rintro w105 hB107 hch106
        have hsz108 := hch106.size
        replace hR0 := hR0.ch hch106 (off1 (by omega))
        replace hO25 := hO25.ch hch106 (fun s hs => by have := dj_asg hdj104 s hs; simpa using this)
        replace hB68 := hB68.ch hch106 (by simp; omega)
        replace hB84 := hB84.ch hch106 (by simp; omega)
        replace hc := (off1 (by omega)).step hc hch106
        replace hB100 : Blk w105 g98 27 [(.bool true), (.int .i64 1), (.int .i64 8)] := hB107
        clear hB107
        refine rw_nil (hK96 _ _ ?_)
        refine hK94 _ _ ?_
        refine cw_seq fun K109 hK110 => ?_
        refine cw_drawn (fun u => Ch [] w105 u) (.free 1 (.free 3 (.two 0 true (.two 2 true (.one 4 true (.one 5 true (.free 6 (.done)))) 4 true (.one 2 true (.one 5 true (.free 6 (.done))))) 4 true (.one 0 true (.one 2 true (.one 5 true (.free 6 (.done)))))))) (by kernel_rfl) (by kernel_rfl) (Ch.refl _ _).drew fun K114 hK115 => ?_
        have hJn117 : ∀ (Aj : Option Addr) (cj : Nat) (J : Env) (Wj : World), (Own encP 3 Wj w.heap.size 27 (.slice Aj (xs22 ++ ([⟨false, 1, 7⟩] : List Stp)).length cj) (xs22 ++ ([⟨false, 1, 7⟩] : List Stp))) → (Blk Wj g82 27 [(.bool true), (.int .i64 1), (.int .i64 7)]) → (Blk Wj g98 27 [(.bool true), (.int .i64 1), (.int .i64 8)]) → Ch [] w Wj → w105.heap.size ≤ Wj.heap.size → K114 (over J [(7, (.pointer (some (⟨g82, 0, none⟩)))), (8, (.pointer (some (⟨g98, 0, none⟩)))), (9, (.slice Aj (xs22 ++ ([⟨false, 1, 7⟩] : List Stp)).length cj))]) Wj := by
          intro Aj cj J Wj hOj hB84 hB100 hc hmono118
          refine hK115 _ _ ?_
          have hub119 := hOj.lt
          have hle120 := hOj.le
          have hjl : (xs22 ++ ([⟨false, 1, 7⟩] : List Stp)).length = xs22.length + 1 := by simp
          refine hK110 _ _ ?_
          refine cw_seq fun K121 hK122 => ?_
          refine cw_seq fun K123 hK124 => ?_
          refine cw_region fun K125 hK126 => ?_
          refine rw_cons (op_pv (w0 rfl) rfl rfl (pv_move (v := (.slice Aj (xs22 ++ ([⟨false, 1, 7⟩] : List Stp)).length cj)) rfl rfl) ?_)
          refine rw_cons (op_call (w0 rfl) rfl rfl (rc_call C10 rfl rfl) (StepsValid_i _ (xs22 ++ ([⟨false, 1, 7⟩] : List Stp)).length _ (xs22 ++ ([⟨false, 1, 7⟩] : List Stp)) _ (hOj.rs (fun _ => rfl)) (by omega)) ?_)
          rintro _ w127 ⟨rfl, hch128⟩
          have hsz129 := hch128.size
          replace hOj := hOj.ch0 hch128
          replace hB84 := hB84.ch0 hch128
          replace hB100 := hB100.ch0 hch128
          replace hc := hc.step0 hch128
          refine rw_cons (op_pv (w0 rfl) rfl rfl (pv_not rfl rfl) ?_)
          refine rw_nil (hK126 _ _ ?_)
          refine hK124 _ _ ?_
          refine cw_cond rfl (fun h130 => ?_) (fun h130 => ?_)
          · -- then
            replace h130 := not_t h130
            replace h130 := dec_f h130
            refine cw_seq fun K131 hK132 => ?_
            refine cw_region fun K133 hK134 => ?_
            refine rw_cons (op_pv (w0 rfl) rfl rfl (pv_assign (v := (.bool true)) rfl rfl) ?_)
            refine rw_nil (hK134 _ _ ?_)
            refine hK132 _ _ ?_
            refine cw_ret ?_
            refine fin1 rfl ?_
            first
              | exact ⟨rfl, hc⟩
              | exact absurd (put_read (‹FitsOK xs22›) (by omega) (‹StepsOK _›)).1 (by assumption)
              | exact ⟨congrArg Value.bool (by rw [dec_no (put_read (‹FitsOK xs22›) (by omega) (‹StepsOK _›)).2]; rfl), hc⟩
          · -- else
            replace h130 := not_f h130
            replace h130 := dec_t h130
            refine cw_skip ?_
            refine hK122 _ _ ?_
            refine cw_seq fun K135 hK136 => ?_
            refine cw_drawn (fun u => Ch [] w127 u) (.free 1 (.free 3 (.two 0 true (.two 2 true (.one 4 true (.one 5 true (.one 6 true (.free 7 (.free 9 (.free 11 (.two 8 true (.two 10 true (.one 12 true (.one 13 true (.one 14 true (.free 15 (.free 16 (.free 17 (.done))))))) 12 true (.one 10 true (.one 13 true (.one 14 true (.free 15 (.free 16 (.free 17 (.done)))))))) 12 true (.one 8 true (.one 10 true (.one 13 true (.one 14 true (.free 15 (.free 16 (.free 17 (.done))))))))))))))) 4 true (.one 2 true (.one 5 true (.one 6 true (.free 7 (.free 9 (.free 11 (.two 8 true (.two 10 true (.one 12 true (.one 13 true (.one 14 true (.free 15 (.free 16 (.free 17 (.done))))))) 12 true (.one 10 true (.one 13 true (.one 14 true (.free 15 (.free 16 (.free 17 (.done)))))))) 12 true (.one 8 true (.one 10 true (.one 13 true (.one 14 true (.free 15 (.free 16 (.free 17 (.done)))))))))))))))) 4 true (.one 0 true (.one 2 true (.one 5 true (.one 6 true (.free 7 (.free 9 (.free 11 (.two 8 true (.two 10 true (.one 12 true (.one 13 true (.one 14 true (.free 15 (.free 16 (.free 17 (.done))))))) 12 true (.one 10 true (.one 13 true (.one 14 true (.free 15 (.free 16 (.free 17 (.done)))))))) 12 true (.one 8 true (.one 10 true (.one 13 true (.one 14 true (.free 15 (.free 16 (.free 17 (.done))))))))))))))))))) (by kernel_rfl) (by kernel_rfl) (Ch.refl _ _).drew fun K140 hK141 => ?_
            obtain ⟨w137, hw_, hch138, hsz139⟩ : ∃ w1 : World, w1 = w127.drew ∧ Ch [] w127 w1 ∧ w1.heap.size = w127.heap.size := ⟨_, rfl, (Ch.refl _ _).drew, rfl⟩
            rw [← hw_]; clear hw_
            have hr142 : Ch [] w127 w137 := hch138.sub (fun s hs => by cases hs)
            have hOj_r := hOj
            have hB84_r := hB84
            have hB100_r := hB100
            have hsz143 := hch138.size
            replace hOj := hOj.ch0 hch138
            replace hB84 := hB84.ch0 hch138
            replace hB100 := hB100.ch0 hch138
            replace hc := hc.step0 hch138
            refine tw_free rfl (w0 rfl) rfl rfl (fun u hu => (pv_move (v := (.slice Aj (xs22 ++ ([⟨false, 1, 7⟩] : List Stp)).length cj)) rfl rfl : PV _ _ _ _) u) ?_
            refine tw_free rfl (w0 rfl) rfl rfl (fun u hu => lv_loadN T27 rfl rfl rfl (fun j v hv => (hB84_r.ch hu (by simp)).cellA hv)) ?_
            refine tw_two rfl rfl ?_ ?_
            · -- first 0
              refine  (op_bslice [] Try.underlying23 T27 (w0 rfl) rfl rfl rfl rfl rfl (by simp [Value.cells]) (by decide) ?_)
              intro g145 w144 hg148 hg149 hK147 hch146
              have hO150 : Own encP 3 w144 w137.heap.size 27 (.slice (some ⟨g145, 0, none⟩) 0 0) ([] : List Stp) := Blk.own (xs := ([] : List Stp)) hK147 (by omega) rfl (by decide) rfl
              have hsz151 := hch146.size
              replace hOj := hOj.ch0 hch146
              replace hB84 := hB84.ch0 hch146
              replace hB100 := hB100.ch0 hch146
              replace hc := hc.step0 hch146
              replace hr142 := hr142.step0 hch146
              have hub152 := hO150.lt
              refine ⟨fun _ => hr142, ?_⟩
              refine tw_two rfl rfl ?_ ?_
              · -- first 2
                refine  (op_append Try.underlying23 T27 (fun _ => rfl) rfl (by decide) (fun _ => one_all rfl) (w0 rfl) rfl rfl rfl rfl rfl hO150 (hOj.rs (fun _ => rfl)) (by unfold maxLen; first | omega | (simp; omega)) (by first | omega | (simp; omega)) (by omega) ?_)
                rintro v153 w154 hO155 hch156 hs157
                replace hO155 : Own encP 3 w154 w137.heap.size 27 v153 (xs22 ++ ([⟨false, 1, 7⟩] : List Stp)) := hO155
                have hl158 : (xs22 ++ ([⟨false, 1, 7⟩] : List Stp)).length = 0 + (xs22 ++ ([⟨false, 1, 7⟩] : List Stp)).length := by first | (have hl0 := (hOj.rs (fun _ => rfl)).len; omega) | (have hl0 := (hOj.rs (fun _ => rfl)).len; simp only [List.length_append, List.length_cons, List.length_nil] at hl0 ⊢; omega) | (simp; omega; done) | simp | rfl
                have hsz159 := hch156.size
                replace hOj := hOj.ch hch156 (fun s hs hs2 => by first | (have h1 := hOj.off s hs; have h2 := hub152 s hs2; omega) | (have h1 := hub119 s hs; have h2 := hO150.off s hs2; omega) | (have h2 := hub152 s hs2; simp [obl, Value.ownBlock] at hs; omega) | (have h1 := hub119 s hs; simp [obl, Value.ownBlock] at hs2; omega))
                replace hB84 := hB84.ch hch156 (by first | (refine hO150.off.not ?_; omega) | (intro hs; have := hub152 _ hs; omega))
                replace hB100 := hB100.ch hch156 (by first | (refine hO150.off.not ?_; omega) | (intro hs; have := hub152 _ hs; omega))
                replace hc := (hO150.off.le (by omega)).step hc hch156
                replace hr142 := (hO150.off.le (by omega)).step hr142 hch156
                have hub160 := hO155.lt
                obtain ⟨A161, c162, hv163, hcap164, hcap165⟩ := hO155.form; subst hv163
                refine ⟨fun _ => hr142, ?_⟩
                refine tw_one rfl (op_bslice [(.agg #[(.bool true), (.int .i64 1), (.int .i64 7)])] Try.underlying23 T27 (w0 rfl) rfl rfl rfl rfl rfl (by simp [Value.cells]) (by decide) ?_)
                intro g167 w166 hg170 hg171 hK169 hch168
                have hO172 : Own encP 3 w166 w154.heap.size 27 (.slice (some ⟨g167, 0, none⟩) 1 1) ([⟨true, 1, 7⟩] : List Stp) := Blk.own (xs := ([⟨true, 1, 7⟩] : List Stp)) hK169 (by omega) rfl (by decide) rfl
                have hsz173 := hch168.size
                replace hOj := hOj.ch0 hch168
                replace hB84 := hB84.ch0 hch168
                replace hB100 := hB100.ch0 hch168
                replace hO155 := hO155.ch0 hch168
                replace hc := hc.step0 hch168
                replace hr142 := hr142.step0 hch168
                have hub174 := hO172.lt
                refine ⟨fun _ => hr142, ?_⟩
                refine tw_one rfl (op_append Try.underlying23 T27 (fun _ => rfl) rfl (by decide) (fun _ => one_all rfl) (w0 rfl) rfl rfl rfl rfl rfl hO155 (hO172.rs (fun _ => rfl)) (by unfold maxLen; first | omega | (simp; omega)) (by first | omega | (simp; omega)) (by omega) ?_)
                rintro v175 w176 hO177 hch178 hs179
                have hl180 : ((xs22 ++ ([⟨false, 1, 7⟩] : List Stp)) ++ ([⟨true, 1, 7⟩] : List Stp)).length = (xs22 ++ ([⟨false, 1, 7⟩] : List Stp)).length + 1 := by first | (have hl0 := (hO172.rs (fun _ => rfl)).len; omega) | (have hl0 := (hO172.rs (fun _ => rfl)).len; simp only [List.length_append, List.length_cons, List.length_nil] at hl0 ⊢; omega) | (simp; omega; done) | simp | rfl
                clear hO172
                have hsz181 := hch178.size
                replace hOj := hOj.ch hch178 (fun s hs hs2 => by first | (have h1 := hOj.off s hs; have h2 := hub160 s hs2; omega) | (have h1 := hub119 s hs; have h2 := hO155.off s hs2; omega) | (have h2 := hub160 s hs2; simp [obl, Value.ownBlock] at hs; omega) | (have h1 := hub119 s hs; simp [obl, Value.ownBlock] at hs2; omega))
                replace hB84 := hB84.ch hch178 (by first | (refine hO155.off.not ?_; omega) | (intro hs; have := hub160 _ hs; omega))
                replace hB100 := hB100.ch hch178 (by first | (refine hO155.off.not ?_; omega) | (intro hs; have := hub160 _ hs; omega))
                replace hc := (hO155.off.le (by omega)).step hc hch178
                replace hr142 := (hO155.off.le (by omega)).step hr142 hch178
                have hub182 := hO177.lt
                obtain ⟨A183, c184, hv185, hcap186, hcap187⟩ := hO177.form; subst hv185
                refine ⟨fun _ => hr142, ?_⟩
                refine tw_one rfl (op_call (w0 rfl) rfl rfl (rc_call C8 rfl rfl) (StepsFit_i _ ((xs22 ++ ([⟨false, 1, 7⟩] : List Stp)) ++ ([⟨true, 1, 7⟩] : List Stp)).length _ ((xs22 ++ ([⟨false, 1, 7⟩] : List Stp)) ++ ([⟨true, 1, 7⟩] : List Stp)) _ (hO177.rs (fun _ => rfl)) (by omega)) ?_)
                rintro _ w188 ⟨rfl, hch189⟩
                have hsz190 := hch189.size
                replace hOj := hOj.ch0 hch189
                replace hB84 := hB84.ch0 hch189
                replace hB100 := hB100.ch0 hch189
                replace hO177 := hO177.ch0 hch189
                replace hc := hc.step0 hch189
                replace hr142 := hr142.step0 hch189
                refine ⟨fun _ => hr142, ?_⟩
                refine tw_free rfl (w0 rfl) rfl rfl (fun u hu => (pv_move (v := (.bool (dec (FitsOK ((xs22 ++ ([⟨false, 1, 7⟩] : List Stp)) ++ ([⟨true, 1, 7⟩] : List Stp)))))) rfl rfl : PV _ _ _ _) u) ?_
                refine tw_split 53 rfl (fun hb191 => ?_) (fun hb191 => ?_)
                · -- yes
                  replace hb191 := dec_t hb191
                  refine tw_free rfl (w1y rfl rfl rfl rfl) rfl rfl (fun u hu => (pv_move (v := (.slice Aj (xs22 ++ ([⟨false, 1, 7⟩] : List Stp)).length cj)) rfl rfl : PV _ _ _ _) u) ?_
                  refine tw_free rfl (w1y rfl rfl rfl rfl) rfl rfl (fun u hu => lv_loadN T27 rfl rfl rfl (fun j v hv => (hB100_r.ch hu (by simp)).cellA hv)) ?_
                  refine tw_two rfl rfl ?_ ?_
                  · -- first 8
                    refine  (op_bslice [] Try.underlying23 T27 (w1y rfl rfl rfl rfl) rfl rfl rfl rfl rfl (by simp [Value.cells]) (by decide) ?_)
                    intro g193 w192 hg196 hg197 hK195 hch194
                    have hO198 : Own encP 3 w192 w188.heap.size 27 (.slice (some ⟨g193, 0, none⟩) 0 0) ([] : List Stp) := Blk.own (xs := ([] : List Stp)) hK195 (by omega) rfl (by decide) rfl
                    have hsz199 := hch194.size
                    replace hOj := hOj.ch0 hch194
                    replace hB84 := hB84.ch0 hch194
                    replace hB100 := hB100.ch0 hch194
                    replace hO177 := hO177.ch0 hch194
                    replace hc := hc.step0 hch194
                    replace hr142 := hr142.step0 hch194
                    have hub200 := hO198.lt
                    refine ⟨fun _ => hr142, ?_⟩
                    refine tw_two rfl rfl ?_ ?_
                    · -- first 10
                      refine  (op_append Try.underlying23 T27 (fun _ => rfl) rfl (by decide) (fun _ => one_all rfl) (w1y rfl rfl rfl rfl) rfl rfl rfl rfl rfl hO198 (hOj.rs (fun _ => rfl)) (by unfold maxLen; first | omega | (simp; omega)) (by first | omega | (simp; omega)) (by omega) ?_)
                      rintro v201 w202 hO203 hch204 hs205
                      replace hO203 : Own encP 3 w202 w188.heap.size 27 v201 (xs22 ++ ([⟨false, 1, 7⟩] : List Stp)) := hO203
                      have hl206 : (xs22 ++ ([⟨false, 1, 7⟩] : List Stp)).length = 0 + (xs22 ++ ([⟨false, 1, 7⟩] : List Stp)).length := by first | (have hl0 := (hOj.rs (fun _ => rfl)).len; omega) | (have hl0 := (hOj.rs (fun _ => rfl)).len; simp only [List.length_append, List.length_cons, List.length_nil] at hl0 ⊢; omega) | (simp; omega; done) | simp | rfl
                      have hsz207 := hch204.size
                      replace hOj := hOj.ch hch204 (fun s hs hs2 => by first | (have h1 := hOj.off s hs; have h2 := hub200 s hs2; omega) | (have h1 := hub119 s hs; have h2 := hO198.off s hs2; omega) | (have h2 := hub200 s hs2; simp [obl, Value.ownBlock] at hs; omega) | (have h1 := hub119 s hs; simp [obl, Value.ownBlock] at hs2; omega))
                      replace hB84 := hB84.ch hch204 (by first | (refine hO198.off.not ?_; omega) | (intro hs; have := hub200 _ hs; omega))
                      replace hB100 := hB100.ch hch204 (by first | (refine hO198.off.not ?_; omega) | (intro hs; have := hub200 _ hs; omega))
                      replace hO177 := hO177.ch hch204 (fun s hs hs2 => by first | (have h1 := hO177.off s hs; have h2 := hub200 s hs2; omega) | (have h1 := hub182 s hs; have h2 := hO198.off s hs2; omega) | (have h2 := hub200 s hs2; simp [obl, Value.ownBlock] at hs; omega) | (have h1 := hub182 s hs; simp [obl, Value.ownBlock] at hs2; omega))
                      replace hc := (hO198.off.le (by omega)).step hc hch204
                      replace hr142 := (hO198.off.le (by omega)).step hr142 hch204
                      have hub208 := hO203.lt
                      obtain ⟨A209, c210, hv211, hcap212, hcap213⟩ := hO203.form; subst hv211
                      refine ⟨fun _ => hr142, ?_⟩
                      refine tw_one rfl (op_bslice [(.agg #[(.bool true), (.int .i64 1), (.int .i64 8)])] Try.underlying23 T27 (w1y rfl rfl rfl rfl) rfl rfl rfl rfl rfl (by simp [Value.cells]) (by decide) ?_)
                      intro g215 w214 hg218 hg219 hK217 hch216
                      have hO220 : Own encP 3 w214 w202.heap.size 27 (.slice (some ⟨g215, 0, none⟩) 1 1) ([⟨true, 1, 8⟩] : List Stp) := Blk.own (xs := ([⟨true, 1, 8⟩] : List Stp)) hK217 (by omega) rfl (by decide) rfl
                      have hsz221 := hch216.size
                      replace hOj := hOj.ch0 hch216
                      replace hB84 := hB84.ch0 hch216
                      replace hB100 := hB100.ch0 hch216
                      replace hO177 := hO177.ch0 hch216
                      replace hO203 := hO203.ch0 hch216
                      replace hc := hc.step0 hch216
                      replace hr142 := hr142.step0 hch216
                      have hub222 := hO220.lt
                      refine ⟨fun _ => hr142, ?_⟩
                      refine tw_one rfl (op_append Try.underlying23 T27 (fun _ => rfl) rfl (by decide) (fun _ => one_all rfl) (w1y rfl rfl rfl rfl) rfl rfl rfl rfl rfl hO203 (hO220.rs (fun _ => rfl)) (by unfold maxLen; first | omega | (simp; omega)) (by first | omega | (simp; omega)) (by omega) ?_)
                      rintro v223 w224 hO225 hch226 hs227
                      have hl228 : ((xs22 ++ ([⟨false, 1, 7⟩] : List Stp)) ++ ([⟨true, 1, 8⟩] : List Stp)).length = (xs22 ++ ([⟨false, 1, 7⟩] : List Stp)).length + 1 := by first | (have hl0 := (hO220.rs (fun _ => rfl)).len; omega) | (have hl0 := (hO220.rs (fun _ => rfl)).len; simp only [List.length_append, List.length_cons, List.length_nil] at hl0 ⊢; omega) | (simp; omega; done) | simp | rfl
                      clear hO220
                      have hsz229 := hch226.size
                      replace hOj := hOj.ch hch226 (fun s hs hs2 => by first | (have h1 := hOj.off s hs; have h2 := hub208 s hs2; omega) | (have h1 := hub119 s hs; have h2 := hO203.off s hs2; omega) | (have h2 := hub208 s hs2; simp [obl, Value.ownBlock] at hs; omega) | (have h1 := hub119 s hs; simp [obl, Value.ownBlock] at hs2; omega))
                      replace hB84 := hB84.ch hch226 (by first | (refine hO203.off.not ?_; omega) | (intro hs; have := hub208 _ hs; omega))
                      replace hB100 := hB100.ch hch226 (by first | (refine hO203.off.not ?_; omega) | (intro hs; have := hub208 _ hs; omega))
                      replace hO177 := hO177.ch hch226 (fun s hs hs2 => by first | (have h1 := hO177.off s hs; have h2 := hub208 s hs2; omega) | (have h1 := hub182 s hs; have h2 := hO203.off s hs2; omega) | (have h2 := hub208 s hs2; simp [obl, Value.ownBlock] at hs; omega) | (have h1 := hub182 s hs; simp [obl, Value.ownBlock] at hs2; omega))
                      replace hc := (hO203.off.le (by omega)).step hc hch226
                      replace hr142 := (hO203.off.le (by omega)).step hr142 hch226
                      have hub230 := hO225.lt
                      obtain ⟨A231, c232, hv233, hcap234, hcap235⟩ := hO225.form; subst hv233
                      refine ⟨fun _ => hr142, ?_⟩
                      refine tw_one rfl (op_call (w1y rfl rfl rfl rfl) rfl rfl (rc_call C8 rfl rfl) (StepsFit_i _ ((xs22 ++ ([⟨false, 1, 7⟩] : List Stp)) ++ ([⟨true, 1, 8⟩] : List Stp)).length _ ((xs22 ++ ([⟨false, 1, 7⟩] : List Stp)) ++ ([⟨true, 1, 8⟩] : List Stp)) _ (hO225.rs (fun _ => rfl)) (by omega)) ?_)
                      rintro _ w236 ⟨rfl, hch237⟩
                      have hsz238 := hch237.size
                      replace hOj := hOj.ch0 hch237
                      replace hB84 := hB84.ch0 hch237
                      replace hB100 := hB100.ch0 hch237
                      replace hO177 := hO177.ch0 hch237
                      replace hO225 := hO225.ch0 hch237
                      replace hc := hc.step0 hch237
                      replace hr142 := hr142.step0 hch237
                      refine ⟨fun _ => hr142, ?_⟩
                      refine tw_free rfl (w1y rfl rfl rfl rfl) rfl rfl (fun u hu => (pv_not rfl rfl : PV _ _ _ _) u) ?_
                      refine tw_free rfl (w0 rfl) rfl rfl (fun u hu => (pv_pickT (v := (.bool (!(dec (FitsOK ((xs22 ++ ([⟨false, 1, 7⟩] : List Stp)) ++ ([⟨true, 1, 8⟩] : List Stp))))))) rfl rfl rfl : PV _ _ _ _) u) ?_
                      refine tw_free rfl (w0 rfl) rfl rfl (fun u hu => (pv_assign (v := (.bool (!(dec (FitsOK ((xs22 ++ ([⟨false, 1, 7⟩] : List Stp)) ++ ([⟨true, 1, 8⟩] : List Stp))))))) rfl rfl : PV _ _ _ _) u) ?_
                      try clear hB100_r
                      try clear hB84_r
                      try clear hOj_r
                      refine tw_done (hK141 _ _ ?_)
                      refine hK136 _ _ ?_
                      refine cw_ret ?_
                      refine fin1 rfl ?_
                      first
                        | exact ⟨rfl, hc⟩
                        | exact absurd (put_read (‹FitsOK xs22›) (by omega) (‹StepsOK _›)).1 (by assumption)
                        | exact ⟨congrArg Value.bool (by rw [dec_no (put_read (‹FitsOK xs22›) (by omega) (‹StepsOK _›)).2]; rfl), hc⟩
                    · -- first 12
                      refine  (op_bslice [(.agg #[(.bool true), (.int .i64 1), (.int .i64 8)])] Try.underlying23 T27 (w1y rfl rfl rfl rfl) rfl rfl rfl rfl rfl (by simp [Value.cells]) (by decide) ?_)
                      intro g240 w239 hg243 hg244 hK242 hch241
                      have hO245 : Own encP 3 w239 w192.heap.size 27 (.slice (some ⟨g240, 0, none⟩) 1 1) ([⟨true, 1, 8⟩] : List Stp) := Blk.own (xs := ([⟨true, 1, 8⟩] : List Stp)) hK242 (by omega) rfl (by decide) rfl
                      have hsz246 := hch241.size
                      replace hOj := hOj.ch0 hch241
                      replace hB84 := hB84.ch0 hch241
                      replace hB100 := hB100.ch0 hch241
                      replace hO177 := hO177.ch0 hch241
                      replace hO198 := hO198.ch0 hch241
                      replace hc := hc.step0 hch241
                      replace hr142 := hr142.step0 hch241
                      have hub247 := hO245.lt
                      refine ⟨fun _ => hr142, ?_⟩
                      refine tw_one rfl (op_append Try.underlying23 T27 (fun _ => rfl) rfl (by decide) (fun _ => one_all rfl) (w1y rfl rfl rfl rfl) rfl rfl rfl rfl rfl hO198 (hOj.rs (fun _ => rfl)) (by unfold maxLen; first | omega | (simp; omega)) (by first | omega | (simp; omega)) (by omega) ?_)
                      rintro v248 w249 hO250 hch251 hs252
                      replace hO250 : Own encP 3 w249 w188.heap.size 27 v248 (xs22 ++ ([⟨false, 1, 7⟩] : List Stp)) := hO250
                      have hl253 : (xs22 ++ ([⟨false, 1, 7⟩] : List Stp)).length = 0 + (xs22 ++ ([⟨false, 1, 7⟩] : List Stp)).length := by first | (have hl0 := (hOj.rs (fun _ => rfl)).len; omega) | (have hl0 := (hOj.rs (fun _ => rfl)).len; simp only [List.length_append, List.length_cons, List.length_nil] at hl0 ⊢; omega) | (simp; omega; done) | simp | rfl
                      have hsz254 := hch251.size
                      replace hOj := hOj.ch hch251 (fun s hs hs2 => by first | (have h1 := hOj.off s hs; have h2 := hub200 s hs2; omega) | (have h1 := hub119 s hs; have h2 := hO198.off s hs2; omega) | (have h2 := hub200 s hs2; simp [obl, Value.ownBlock] at hs; omega) | (have h1 := hub119 s hs; simp [obl, Value.ownBlock] at hs2; omega))
                      replace hB84 := hB84.ch hch251 (by first | (refine hO198.off.not ?_; omega) | (intro hs; have := hub200 _ hs; omega))
                      replace hB100 := hB100.ch hch251 (by first | (refine hO198.off.not ?_; omega) | (intro hs; have := hub200 _ hs; omega))
                      replace hO177 := hO177.ch hch251 (fun s hs hs2 => by first | (have h1 := hO177.off s hs; have h2 := hub200 s hs2; omega) | (have h1 := hub182 s hs; have h2 := hO198.off s hs2; omega) | (have h2 := hub200 s hs2; simp [obl, Value.ownBlock] at hs; omega) | (have h1 := hub182 s hs; simp [obl, Value.ownBlock] at hs2; omega))
                      replace hO245 := hO245.ch hch251 (fun s hs hs2 => by first | (have h1 := hO245.off s hs; have h2 := hub200 s hs2; omega) | (have h1 := hub247 s hs; have h2 := hO198.off s hs2; omega) | (have h2 := hub200 s hs2; simp [obl, Value.ownBlock] at hs; omega) | (have h1 := hub247 s hs; simp [obl, Value.ownBlock] at hs2; omega))
                      replace hc := (hO198.off.le (by omega)).step hc hch251
                      replace hr142 := (hO198.off.le (by omega)).step hr142 hch251
                      have hub255 := hO250.lt
                      obtain ⟨A256, c257, hv258, hcap259, hcap260⟩ := hO250.form; subst hv258
                      refine ⟨fun _ => hr142, ?_⟩
                      refine tw_one rfl (op_append Try.underlying23 T27 (fun _ => rfl) rfl (by decide) (fun _ => one_all rfl) (w1y rfl rfl rfl rfl) rfl rfl rfl rfl rfl hO250 (hO245.rs (fun _ => rfl)) (by unfold maxLen; first | omega | (simp; omega)) (by first | omega | (simp; omega)) (by omega) ?_)
                      rintro v261 w262 hO263 hch264 hs265
                      have hl266 : ((xs22 ++ ([⟨false, 1, 7⟩] : List Stp)) ++ ([⟨true, 1, 8⟩] : List Stp)).length = (xs22 ++ ([⟨false, 1, 7⟩] : List Stp)).length + 1 := by first | (have hl0 := (hO245.rs (fun _ => rfl)).len; omega) | (have hl0 := (hO245.rs (fun _ => rfl)).len; simp only [List.length_append, List.length_cons, List.length_nil] at hl0 ⊢; omega) | (simp; omega; done) | simp | rfl
                      clear hO245
                      have hsz267 := hch264.size
                      replace hOj := hOj.ch hch264 (fun s hs hs2 => by first | (have h1 := hOj.off s hs; have h2 := hub255 s hs2; omega) | (have h1 := hub119 s hs; have h2 := hO250.off s hs2; omega) | (have h2 := hub255 s hs2; simp [obl, Value.ownBlock] at hs; omega) | (have h1 := hub119 s hs; simp [obl, Value.ownBlock] at hs2; omega))
                      replace hB84 := hB84.ch hch264 (by first | (refine hO250.off.not ?_; omega) | (intro hs; have := hub255 _ hs; omega))
                      replace hB100 := hB100.ch hch264 (by first | (refine hO250.off.not ?_; omega) | (intro hs; have := hub255 _ hs; omega))
                      replace hO177 := hO177.ch hch264 (fun s hs hs2 => by first | (have h1 := hO177.off s hs; have h2 := hub255 s hs2; omega) | (have h1 := hub182 s hs; have h2 := hO250.off s hs2; omega) | (have h2 := hub255 s hs2; simp [obl, Value.ownBlock] at hs; omega) | (have h1 := hub182 s hs; simp [obl, Value.ownBlock] at hs2; omega))
                      replace hc := (hO250.off.le (by omega)).step hc hch264
                      replace hr142 := (hO250.off.le (by omega)).step hr142 hch264
                      have hub268 := hO263.lt
                      obtain ⟨A269, c270, hv271, hcap272, hcap273⟩ := hO263.form; subst hv271
                      refine ⟨fun _ => hr142, ?_⟩
                      refine tw_one rfl (op_call (w1y rfl rfl rfl rfl) rfl rfl (rc_call C8 rfl rfl) (StepsFit_i _ ((xs22 ++ ([⟨false, 1, 7⟩] : List Stp)) ++ ([⟨true, 1, 8⟩] : List Stp)).length _ ((xs22 ++ ([⟨false, 1, 7⟩] : List Stp)) ++ ([⟨true, 1, 8⟩] : List Stp)) _ (hO263.rs (fun _ => rfl)) (by omega)) ?_)
                      rintro _ w274 ⟨rfl, hch275⟩
                      have hsz276 := hch275.size
                      replace hOj := hOj.ch0 hch275
                      replace hB84 := hB84.ch0 hch275
                      replace hB100 := hB100.ch0 hch275
                      replace hO177 := hO177.ch0 hch275
                      replace hO263 := hO263.ch0 hch275
                      replace hc := hc.step0 hch275
                      replace hr142 := hr142.step0 hch275
                      refine ⟨fun _ => hr142, ?_⟩
                      refine tw_free rfl (w1y rfl rfl rfl rfl) rfl rfl (fun u hu => (pv_not rfl rfl : PV _ _ _ _) u) ?_
                      refine tw_free rfl (w0 rfl) rfl rfl (fun u hu => (pv_pickT (v := (.bool (!(dec (FitsOK ((xs22 ++ ([⟨false, 1, 7⟩] : List Stp)) ++ ([⟨true, 1, 8⟩] : List Stp))))))) rfl rfl rfl : PV _ _ _ _) u) ?_
                      refine tw_free rfl (w0 rfl) rfl rfl (fun u hu => (pv_assign (v := (.bool (!(dec (FitsOK ((xs22 ++ ([⟨false, 1, 7⟩] : List Stp)) ++ ([⟨true, 1, 8⟩] : List Stp))))))) rfl rfl : PV _ _ _ _) u) ?_
                      try clear hB100_r
                      try clear hB84_r
                      try clear hOj_r
                      refine tw_done (hK141 _ _ ?_)
                      refine hK136 _ _ ?_
                      refine cw_ret ?_
                      refine fin1 rfl ?_
                      first
                        | exact ⟨rfl, hc⟩
                        | exact absurd (put_read (‹FitsOK xs22›) (by omega) (‹StepsOK _›)).1 (by assumption)
                        | exact ⟨congrArg Value.bool (by rw [dec_no (put_read (‹FitsOK xs22›) (by omega) (‹StepsOK _›)).2]; rfl), hc⟩
                  · -- first 12
                    refine  (op_bslice [(.agg #[(.bool true), (.int .i64 1), (.int .i64 8)])] Try.underlying23 T27 (w1y rfl rfl rfl rfl) rfl rfl rfl rfl rfl (by simp [Value.cells]) (by decide) ?_)
                    intro g278 w277 hg281 hg282 hK280 hch279
                    have hO283 : Own encP 3 w277 w188.heap.size 27 (.slice (some ⟨g278, 0, none⟩) 1 1) ([⟨true, 1, 8⟩] : List Stp) := Blk.own (xs := ([⟨true, 1, 8⟩] : List Stp)) hK280 (by omega) rfl (by decide) rfl
                    have hsz284 := hch279.size
                    replace hOj := hOj.ch0 hch279
                    replace hB84 := hB84.ch0 hch279
                    replace hB100 := hB100.ch0 hch279
                    replace hO177 := hO177.ch0 hch279
                    replace hc := hc.step0 hch279
                    replace hr142 := hr142.step0 hch279
                    have hub285 := hO283.lt
                    refine ⟨fun _ => hr142, ?_⟩
                    refine tw_one rfl (op_bslice [] Try.underlying23 T27 (w1y rfl rfl rfl rfl) rfl rfl rfl rfl rfl (by simp [Value.cells]) (by decide) ?_)
                    intro g287 w286 hg290 hg291 hK289 hch288
                    have hO292 : Own encP 3 w286 w277.heap.size 27 (.slice (some ⟨g287, 0, none⟩) 0 0) ([] : List Stp) := Blk.own (xs := ([] : List Stp)) hK289 (by omega) rfl (by decide) rfl
                    have hsz293 := hch288.size
                    replace hOj := hOj.ch0 hch288
                    replace hB84 := hB84.ch0 hch288
                    replace hB100 := hB100.ch0 hch288
                    replace hO177 := hO177.ch0 hch288
                    replace hO283 := hO283.ch0 hch288
                    replace hc := hc.step0 hch288
                    replace hr142 := hr142.step0 hch288
                    have hub294 := hO292.lt
                    refine ⟨fun _ => hr142, ?_⟩
                    refine tw_one rfl (op_append Try.underlying23 T27 (fun _ => rfl) rfl (by decide) (fun _ => one_all rfl) (w1y rfl rfl rfl rfl) rfl rfl rfl rfl rfl hO292 (hOj.rs (fun _ => rfl)) (by unfold maxLen; first | omega | (simp; omega)) (by first | omega | (simp; omega)) (by omega) ?_)
                    rintro v295 w296 hO297 hch298 hs299
                    replace hO297 : Own encP 3 w296 w277.heap.size 27 v295 (xs22 ++ ([⟨false, 1, 7⟩] : List Stp)) := hO297
                    have hl300 : (xs22 ++ ([⟨false, 1, 7⟩] : List Stp)).length = 0 + (xs22 ++ ([⟨false, 1, 7⟩] : List Stp)).length := by first | (have hl0 := (hOj.rs (fun _ => rfl)).len; omega) | (have hl0 := (hOj.rs (fun _ => rfl)).len; simp only [List.length_append, List.length_cons, List.length_nil] at hl0 ⊢; omega) | (simp; omega; done) | simp | rfl
                    have hsz301 := hch298.size
                    replace hOj := hOj.ch hch298 (fun s hs hs2 => by first | (have h1 := hOj.off s hs; have h2 := hub294 s hs2; omega) | (have h1 := hub119 s hs; have h2 := hO292.off s hs2; omega) | (have h2 := hub294 s hs2; simp [obl, Value.ownBlock] at hs; omega) | (have h1 := hub119 s hs; simp [obl, Value.ownBlock] at hs2; omega))
                    replace hB84 := hB84.ch hch298 (by first | (refine hO292.off.not ?_; omega) | (intro hs; have := hub294 _ hs; omega))
                    replace hB100 := hB100.ch hch298 (by first | (refine hO292.off.not ?_; omega) | (intro hs; have := hub294 _ hs; omega))
                    replace hO177 := hO177.ch hch298 (fun s hs hs2 => by first | (have h1 := hO177.off s hs; have h2 := hub294 s hs2; omega) | (have h1 := hub182 s hs; have h2 := hO292.off s hs2; omega) | (have h2 := hub294 s hs2; simp [obl, Value.ownBlock] at hs; omega) | (have h1 := hub182 s hs; simp [obl, Value.ownBlock] at hs2; omega))
                    replace hO283 := hO283.ch hch298 (fun s hs hs2 => by first | (have h1 := hO283.off s hs; have h2 := hub294 s hs2; omega) | (have h1 := hub285 s hs; have h2 := hO292.off s hs2; omega) | (have h2 := hub294 s hs2; simp [obl, Value.ownBlock] at hs; omega) | (have h1 := hub285 s hs; simp [obl, Value.ownBlock] at hs2; omega))
                    replace hc := (hO292.off.le (by omega)).step hc hch298
                    replace hr142 := (hO292.off.le (by omega)).step hr142 hch298
                    have hub302 := hO297.lt
                    obtain ⟨A303, c304, hv305, hcap306, hcap307⟩ := hO297.form; subst hv305
                    refine ⟨fun _ => hr142, ?_⟩
                    refine tw_one rfl (op_append Try.underlying23 T27 (fun _ => rfl) rfl (by decide) (fun _ => one_all rfl) (w1y rfl rfl rfl rfl) rfl rfl rfl rfl rfl hO297 (hO283.rs (fun _ => rfl)) (by unfold maxLen; first | omega | (simp; omega)) (by first | omega | (simp; omega)) (by omega) ?_)
                    rintro v308 w309 hO310 hch311 hs312
                    have hl313 : ((xs22 ++ ([⟨false, 1, 7⟩] : List Stp)) ++ ([⟨true, 1, 8⟩] : List Stp)).length = (xs22 ++ ([⟨false, 1, 7⟩] : List Stp)).length + 1 := by first | (have hl0 := (hO283.rs (fun _ => rfl)).len; omega) | (have hl0 := (hO283.rs (fun _ => rfl)).len; simp only [List.length_append, List.length_cons, List.length_nil] at hl0 ⊢; omega) | (simp; omega; done) | simp | rfl
                    clear hO283
                    have hsz314 := hch311.size
                    replace hOj := hOj.ch hch311 (fun s hs hs2 => by first | (have h1 := hOj.off s hs; have h2 := hub302 s hs2; omega) | (have h1 := hub119 s hs; have h2 := hO297.off s hs2; omega) | (have h2 := hub302 s hs2; simp [obl, Value.ownBlock] at hs; omega) | (have h1 := hub119 s hs; simp [obl, Value.ownBlock] at hs2; omega))
                    replace hB84 := hB84.ch hch311 (by first | (refine hO297.off.not ?_; omega) | (intro hs; have := hub302 _ hs; omega))
                    replace hB100 := hB100.ch hch311 (by first | (refine hO297.off.not ?_; omega) | (intro hs; have := hub302 _ hs; omega))
                    replace hO177 := hO177.ch hch311 (fun s hs hs2 => by first | (have h1 := hO177.off s hs; have h2 := hub302 s hs2; omega) | (have h1 := hub182 s hs; have h2 := hO297.off s hs2; omega) | (have h2 := hub302 s hs2; simp [obl, Value.ownBlock] at hs; omega) | (have h1 := hub182 s hs; simp [obl, Value.ownBlock] at hs2; omega))
                    replace hc := (hO297.off.le (by omega)).step hc hch311
                    replace hr142 := (hO297.off.le (by omega)).step hr142 hch311
                    have hub315 := hO310.lt
                    obtain ⟨A316, c317, hv318, hcap319, hcap320⟩ := hO310.form; subst hv318
                    refine ⟨fun _ => hr142, ?_⟩
                    refine tw_one rfl (op_call (w1y rfl rfl rfl rfl) rfl rfl (rc_call C8 rfl rfl) (StepsFit_i _ ((xs22 ++ ([⟨false, 1, 7⟩] : List Stp)) ++ ([⟨true, 1, 8⟩] : List Stp)).length _ ((xs22 ++ ([⟨false, 1, 7⟩] : List Stp)) ++ ([⟨true, 1, 8⟩] : List Stp)) _ (hO310.rs (fun _ => rfl)) (by omega)) ?_)
                    rintro _ w321 ⟨rfl, hch322⟩
                    have hsz323 := hch322.size
                    replace hOj := hOj.ch0 hch322
                    replace hB84 := hB84.ch0 hch322
                    replace hB100 := hB100.ch0 hch322
                    replace hO177 := hO177.ch0 hch322
                    replace hO310 := hO310.ch0 hch322
                    replace hc := hc.step0 hch322
                    replace hr142 := hr142.step0 hch322
                    refine ⟨fun _ => hr142, ?_⟩
                    refine tw_free rfl (w1y rfl rfl rfl rfl) rfl rfl (fun u hu => (pv_not rfl rfl : PV _ _ _ _) u) ?_
                    refine tw_free rfl (w0 rfl) rfl rfl (fun u hu => (pv_pickT (v := (.bool (!(dec (FitsOK ((xs22 ++ ([⟨false, 1, 7⟩] : List Stp)) ++ ([⟨true, 1, 8⟩] : List Stp))))))) rfl rfl rfl : PV _ _ _ _) u) ?_
                    refine tw_free rfl (w0 rfl) rfl rfl (fun u hu => (pv_assign (v := (.bool (!(dec (FitsOK ((xs22 ++ ([⟨false, 1, 7⟩] : List Stp)) ++ ([⟨true, 1, 8⟩] : List Stp))))))) rfl rfl : PV _ _ _ _) u) ?_
                    try clear hB100_r
                    try clear hB84_r
                    try clear hOj_r
                    refine tw_done (hK141 _ _ ?_)
                    refine hK136 _ _ ?_
                    refine cw_ret ?_
                    refine fin1 rfl ?_
                    first
                      | exact ⟨rfl, hc⟩
                      | exact absurd (put_read (‹FitsOK xs22›) (by omega) (‹StepsOK _›)).1 (by assumption)
                      | exact ⟨congrArg Value.bool (by rw [dec_no (put_read (‹FitsOK xs22›) (by omega) (‹StepsOK _›)).2]; rfl), hc⟩
                · -- no
                  replace hb191 := dec_f hb191
                  refine tw_pass rfl (w1n1 rfl rfl rfl rfl) rfl rfl ?_
                  refine tw_pass rfl (w1n1 rfl rfl rfl rfl) rfl rfl ?_
                  refine tw_two rfl rfl ?_ ?_
                  · -- first 8
                    refine  (op_pass (w1n1 rfl rfl rfl rfl) rfl rfl ?_)
                    refine ⟨fun _ => hr142, ?_⟩
                    refine tw_two rfl rfl ?_ ?_
                    · -- first 10
                      refine  (op_pass (w1n1 rfl rfl rfl rfl) rfl rfl ?_)
                      refine ⟨fun _ => hr142, ?_⟩
                      refine tw_one rfl (op_pass (w1n1 rfl rfl rfl rfl) rfl rfl ?_)
                      refine ⟨fun _ => hr142, ?_⟩
                      refine tw_one rfl (op_pass (w1n1 rfl rfl rfl rfl) rfl rfl ?_)
                      refine ⟨fun _ => hr142, ?_⟩
                      refine tw_one rfl (op_pass (w1n1 rfl rfl rfl rfl) rfl rfl ?_)
                      refine ⟨fun _ => hr142, ?_⟩
                      refine tw_pass rfl (w1n1 rfl rfl rfl rfl) rfl rfl ?_
                      refine tw_free rfl (w0 rfl) rfl rfl (fun u hu => (pv_pickF (v := (.bool false)) rfl rfl rfl : PV _ _ _ _) u) ?_
                      refine tw_free rfl (w0 rfl) rfl rfl (fun u hu => (pv_assign (v := (.bool false)) rfl rfl : PV _ _ _ _) u) ?_
                      try clear hB100_r
                      try clear hB84_r
                      try clear hOj_r
                      refine tw_done (hK141 _ _ ?_)
                      refine hK136 _ _ ?_
                      refine cw_ret ?_
                      refine fin1 rfl ?_
                      first
                        | exact ⟨rfl, hc⟩
                        | exact absurd (put_read (‹FitsOK xs22›) (by omega) (‹StepsOK _›)).1 (by assumption)
                        | exact ⟨congrArg Value.bool (by rw [dec_no (put_read (‹FitsOK xs22›) (by omega) (‹StepsOK _›)).2]; rfl), hc⟩
                    · -- first 12
                      refine  (op_pass (w1n1 rfl rfl rfl rfl) rfl rfl ?_)
                      refine ⟨fun _ => hr142, ?_⟩
                      refine tw_one rfl (op_pass (w1n1 rfl rfl rfl rfl) rfl rfl ?_)
                      refine ⟨fun _ => hr142, ?_⟩
                      refine tw_one rfl (op_pass (w1n1 rfl rfl rfl rfl) rfl rfl ?_)
                      refine ⟨fun _ => hr142, ?_⟩
                      refine tw_one rfl (op_pass (w1n1 rfl rfl rfl rfl) rfl rfl ?_)
                      refine ⟨fun _ => hr142, ?_⟩
                      refine tw_pass rfl (w1n1 rfl rfl rfl rfl) rfl rfl ?_
                      refine tw_free rfl (w0 rfl) rfl rfl (fun u hu => (pv_pickF (v := (.bool false)) rfl rfl rfl : PV _ _ _ _) u) ?_
                      refine tw_free rfl (w0 rfl) rfl rfl (fun u hu => (pv_assign (v := (.bool false)) rfl rfl : PV _ _ _ _) u) ?_
                      try clear hB100_r
                      try clear hB84_r
                      try clear hOj_r
                      refine tw_done (hK141 _ _ ?_)
                      refine hK136 _ _ ?_
                      refine cw_ret ?_
                      refine fin1 rfl ?_
                      first
                        | exact ⟨rfl, hc⟩
                        | exact absurd (put_read (‹FitsOK xs22›) (by omega) (‹StepsOK _›)).1 (by assumption)
                        | exact ⟨congrArg Value.bool (by rw [dec_no (put_read (‹FitsOK xs22›) (by omega) (‹StepsOK _›)).2]; rfl), hc⟩
                  · -- first 12
                    refine  (op_pass (w1n1 rfl rfl rfl rfl) rfl rfl ?_)
                    refine ⟨fun _ => hr142, ?_⟩
                    refine tw_one rfl (op_pass (w1n1 rfl rfl rfl rfl) rfl rfl ?_)
                    refine ⟨fun _ => hr142, ?_⟩
                    refine tw_one rfl (op_pass (w1n1 rfl rfl rfl rfl) rfl rfl ?_)
                    refine ⟨fun _ => hr142, ?_⟩
                    refine tw_one rfl (op_pass (w1n1 rfl rfl rfl rfl) rfl rfl ?_)
                    refine ⟨fun _ => hr142, ?_⟩
                    refine tw_one rfl (op_pass (w1n1 rfl rfl rfl rfl) rfl rfl ?_)
                    refine ⟨fun _ => hr142, ?_⟩
                    refine tw_pass rfl (w1n1 rfl rfl rfl rfl) rfl rfl ?_
                    refine tw_free rfl (w0 rfl) rfl rfl (fun u hu => (pv_pickF (v := (.bool false)) rfl rfl rfl : PV _ _ _ _) u) ?_
                    refine tw_free rfl (w0 rfl) rfl rfl (fun u hu => (pv_assign (v := (.bool false)) rfl rfl : PV _ _ _ _) u) ?_
                    try clear hB100_r
                    try clear hB84_r
                    try clear hOj_r
                    refine tw_done (hK141 _ _ ?_)
                    refine hK136 _ _ ?_
                    refine cw_ret ?_
                    refine fin1 rfl ?_
                    first
                      | exact ⟨rfl, hc⟩
                      | exact absurd (put_read (‹FitsOK xs22›) (by omega) (‹StepsOK _›)).1 (by assumption)
                      | exact ⟨congrArg Value.bool (by rw [dec_no (put_read (‹FitsOK xs22›) (by omega) (‹StepsOK _›)).2]; rfl), hc⟩
              · -- first 4
                refine  (op_bslice [(.agg #[(.bool true), (.int .i64 1), (.int .i64 7)])] Try.underlying23 T27 (w0 rfl) rfl rfl rfl rfl rfl (by simp [Value.cells]) (by decide) ?_)
                intro g325 w324 hg328 hg329 hK327 hch326
                have hO330 : Own encP 3 w324 w144.heap.size 27 (.slice (some ⟨g325, 0, none⟩) 1 1) ([⟨true, 1, 7⟩] : List Stp) := Blk.own (xs := ([⟨true, 1, 7⟩] : List Stp)) hK327 (by omega) rfl (by decide) rfl
                have hsz331 := hch326.size
                replace hOj := hOj.ch0 hch326
                replace hB84 := hB84.ch0 hch326
                replace hB100 := hB100.ch0 hch326
                replace hO150 := hO150.ch0 hch326
                replace hc := hc.step0 hch326
                replace hr142 := hr142.step0 hch326
                have hub332 := hO330.lt
                refine ⟨fun _ => hr142, ?_⟩
                refine tw_one rfl (op_append Try.underlying23 T27 (fun _ => rfl) rfl (by decide) (fun _ => one_all rfl) (w0 rfl) rfl rfl rfl rfl rfl hO150 (hOj.rs (fun _ => rfl)) (by unfold maxLen; first | omega | (simp; omega)) (by first | omega | (simp; omega)) (by omega) ?_)
                rintro v333 w334 hO335 hch336 hs337
                replace hO335 : Own encP 3 w334 w137.heap.size 27 v333 (xs22 ++ ([⟨false, 1, 7⟩] : List Stp)) := hO335
                have hl338 : (xs22 ++ ([⟨false, 1, 7⟩] : List Stp)).length = 0 + (xs22 ++ ([⟨false, 1, 7⟩] : List Stp)).length := by first | (have hl0 := (hOj.rs (fun _ => rfl)).len; omega) | (have hl0 := (hOj.rs (fun _ => rfl)).len; simp only [List.length_append, List.length_cons, List.length_nil] at hl0 ⊢; omega) | (simp; omega; done) | simp | rfl
                have hsz339 := hch336.size
                replace hOj := hOj.ch hch336 (fun s hs hs2 => by first | (have h1 := hOj.off s hs; have h2 := hub152 s hs2; omega) | (have h1 := hub119 s hs; have h2 := hO150.off s hs2; omega) | (have h2 := hub152 s hs2; simp [obl, Value.ownBlock] at hs; omega) | (have h1 := hub119 s hs; simp [obl, Value.ownBlock] at hs2; omega))
                replace hB84 := hB84.ch hch336 (by first | (refine hO150.off.not ?_; omega) | (intro hs; have := hub152 _ hs; omega))
                replace hB100 := hB100.ch hch336 (by first | (refine hO150.off.not ?_; omega) | (intro hs; have := hub152 _ hs; omega))
                replace hO330 := hO330.ch hch336 (fun s hs hs2 => by first | (have h1 := hO330.off s hs; have h2 := hub152 s hs2; omega) | (have h1 := hub332 s hs; have h2 := hO150.off s hs2; omega) | (have h2 := hub152 s hs2; simp [obl, Value.ownBlock] at hs; omega) | (have h1 := hub332 s hs; simp [obl, Value.ownBlock] at hs2; omega))
                replace hc := (hO150.off.le (by omega)).step hc hch336
                replace hr142 := (hO150.off.le (by omega)).step hr142 hch336
                have hub340 := hO335.lt
                obtain ⟨A341, c342, hv343, hcap344, hcap345⟩ := hO335.form; subst hv343
                refine ⟨fun _ => hr142, ?_⟩
                refine tw_one rfl (op_append Try.underlying23 T27 (fun _ => rfl) rfl (by decide) (fun _ => one_all rfl) (w0 rfl) rfl rfl rfl rfl rfl hO335 (hO330.rs (fun _ => rfl)) (by unfold maxLen; first | omega | (simp; omega)) (by first | omega | (simp; omega)) (by omega) ?_)
                rintro v346 w347 hO348 hch349 hs350
                have hl351 : ((xs22 ++ ([⟨false, 1, 7⟩] : List Stp)) ++ ([⟨true, 1, 7⟩] : List Stp)).length = (xs22 ++ ([⟨false, 1, 7⟩] : List Stp)).length + 1 := by first | (have hl0 := (hO330.rs (fun _ => rfl)).len; omega) | (have hl0 := (hO330.rs (fun _ => rfl)).len; simp only [List.length_append, List.length_cons, List.length_nil] at hl0 ⊢; omega) | (simp; omega; done) | simp | rfl
                clear hO330
                have hsz352 := hch349.size
                replace hOj := hOj.ch hch349 (fun s hs hs2 => by first | (have h1 := hOj.off s hs; have h2 := hub340 s hs2; omega) | (have h1 := hub119 s hs; have h2 := hO335.off s hs2; omega) | (have h2 := hub340 s hs2; simp [obl, Value.ownBlock] at hs; omega) | (have h1 := hub119 s hs; simp [obl, Value.ownBlock] at hs2; omega))
                replace hB84 := hB84.ch hch349 (by first | (refine hO335.off.not ?_; omega) | (intro hs; have := hub340 _ hs; omega))
                replace hB100 := hB100.ch hch349 (by first | (refine hO335.off.not ?_; omega) | (intro hs; have := hub340 _ hs; omega))
                replace hc := (hO335.off.le (by omega)).step hc hch349
                replace hr142 := (hO335.off.le (by omega)).step hr142 hch349
                have hub353 := hO348.lt
                obtain ⟨A354, c355, hv356, hcap357, hcap358⟩ := hO348.form; subst hv356
                refine ⟨fun _ => hr142, ?_⟩
                refine tw_one rfl (op_call (w0 rfl) rfl rfl (rc_call C8 rfl rfl) (StepsFit_i _ ((xs22 ++ ([⟨false, 1, 7⟩] : List Stp)) ++ ([⟨true, 1, 7⟩] : List Stp)).length _ ((xs22 ++ ([⟨false, 1, 7⟩] : List Stp)) ++ ([⟨true, 1, 7⟩] : List Stp)) _ (hO348.rs (fun _ => rfl)) (by omega)) ?_)
                rintro _ w359 ⟨rfl, hch360⟩
                have hsz361 := hch360.size
                replace hOj := hOj.ch0 hch360
                replace hB84 := hB84.ch0 hch360
                replace hB100 := hB100.ch0 hch360
                replace hO348 := hO348.ch0 hch360
                replace hc := hc.step0 hch360
                replace hr142 := hr142.step0 hch360
                refine ⟨fun _ => hr142, ?_⟩
                refine tw_free rfl (w0 rfl) rfl rfl (fun u hu => (pv_move (v := (.bool (dec (FitsOK ((xs22 ++ ([⟨false, 1, 7⟩] : List Stp)) ++ ([⟨true, 1, 7⟩] : List Stp)))))) rfl rfl : PV _ _ _ _) u) ?_
                refine tw_split 53 rfl (fun hb362 => ?_) (fun hb362 => ?_)
                · -- yes
                  replace hb362 := dec_t hb362
                  refine tw_free rfl (w1y rfl rfl rfl rfl) rfl rfl (fun u hu => (pv_move (v := (.slice Aj (xs22 ++ ([⟨false, 1, 7⟩] : List Stp)).length cj)) rfl rfl : PV _ _ _ _) u) ?_
                  refine tw_free rfl (w1y rfl rfl rfl rfl) rfl rfl (fun u hu => lv_loadN T27 rfl rfl rfl (fun j v hv => (hB100_r.ch hu (by simp)).cellA hv)) ?_
                  refine tw_two rfl rfl ?_ ?_
                  · -- first 8
                    refine  (op_bslice [] Try.underlying23 T27 (w1y rfl rfl rfl rfl) rfl rfl rfl rfl rfl (by simp [Value.cells]) (by decide) ?_)
                    intro g364 w363 hg367 hg368 hK366 hch365
                    have hO369 : Own encP 3 w363 w359.heap.size 27 (.slice (some ⟨g364, 0, none⟩) 0 0) ([] : List Stp) := Blk.own (xs := ([] : List Stp)) hK366 (by omega) rfl (by decide) rfl
                    have hsz370 := hch365.size
                    replace hOj := hOj.ch0 hch365
                    replace hB84 := hB84.ch0 hch365
                    replace hB100 := hB100.ch0 hch365
                    replace hO348 := hO348.ch0 hch365
                    replace hc := hc.step0 hch365
                    replace hr142 := hr142.step0 hch365
                    have hub371 := hO369.lt
                    refine ⟨fun _ => hr142, ?_⟩
                    refine tw_two rfl rfl ?_ ?_
                    · -- first 10
                      refine  (op_append Try.underlying23 T27 (fun _ => rfl) rfl (by decide) (fun _ => one_all rfl) (w1y rfl rfl rfl rfl) rfl rfl rfl rfl rfl hO369 (hOj.rs (fun _ => rfl)) (by unfold maxLen; first | omega | (simp; omega)) (by first | omega | (simp; omega)) (by omega) ?_)
                      rintro v372 w373 hO374 hch375 hs376
                      replace hO374 : Own encP 3 w373 w359.heap.size 27 v372 (xs22 ++ ([⟨false, 1, 7⟩] : List Stp)) := hO374
                      have hl377 : (xs22 ++ ([⟨false, 1, 7⟩] : List Stp)).length = 0 + (xs22 ++ ([⟨false, 1, 7⟩] : List Stp)).length := by first | (have hl0 := (hOj.rs (fun _ => rfl)).len; omega) | (have hl0 := (hOj.rs (fun _ => rfl)).len; simp only [List.length_append, List.length_cons, List.length_nil] at hl0 ⊢; omega) | (simp; omega; done) | simp | rfl
                      have hsz378 := hch375.size
                      replace hOj := hOj.ch hch375 (fun s hs hs2 => by first | (have h1 := hOj.off s hs; have h2 := hub371 s hs2; omega) | (have h1 := hub119 s hs; have h2 := hO369.off s hs2; omega) | (have h2 := hub371 s hs2; simp [obl, Value.ownBlock] at hs; omega) | (have h1 := hub119 s hs; simp [obl, Value.ownBlock] at hs2; omega))
                      replace hB84 := hB84.ch hch375 (by first | (refine hO369.off.not ?_; omega) | (intro hs; have := hub371 _ hs; omega))
                      replace hB100 := hB100.ch hch375 (by first | (refine hO369.off.not ?_; omega) | (intro hs; have := hub371 _ hs; omega))
                      replace hO348 := hO348.ch hch375 (fun s hs hs2 => by first | (have h1 := hO348.off s hs; have h2 := hub371 s hs2; omega) | (have h1 := hub353 s hs; have h2 := hO369.off s hs2; omega) | (have h2 := hub371 s hs2; simp [obl, Value.ownBlock] at hs; omega) | (have h1 := hub353 s hs; simp [obl, Value.ownBlock] at hs2; omega))
                      replace hc := (hO369.off.le (by omega)).step hc hch375
                      replace hr142 := (hO369.off.le (by omega)).step hr142 hch375
                      have hub379 := hO374.lt
                      obtain ⟨A380, c381, hv382, hcap383, hcap384⟩ := hO374.form; subst hv382
                      refine ⟨fun _ => hr142, ?_⟩
                      refine tw_one rfl (op_bslice [(.agg #[(.bool true), (.int .i64 1), (.int .i64 8)])] Try.underlying23 T27 (w1y rfl rfl rfl rfl) rfl rfl rfl rfl rfl (by simp [Value.cells]) (by decide) ?_)
                      intro g386 w385 hg389 hg390 hK388 hch387
                      have hO391 : Own encP 3 w385 w373.heap.size 27 (.slice (some ⟨g386, 0, none⟩) 1 1) ([⟨true, 1, 8⟩] : List Stp) := Blk.own (xs := ([⟨true, 1, 8⟩] : List Stp)) hK388 (by omega) rfl (by decide) rfl
                      have hsz392 := hch387.size
                      replace hOj := hOj.ch0 hch387
                      replace hB84 := hB84.ch0 hch387
                      replace hB100 := hB100.ch0 hch387
                      replace hO348 := hO348.ch0 hch387
                      replace hO374 := hO374.ch0 hch387
                      replace hc := hc.step0 hch387
                      replace hr142 := hr142.step0 hch387
                      have hub393 := hO391.lt
                      refine ⟨fun _ => hr142, ?_⟩
                      refine tw_one rfl (op_append Try.underlying23 T27 (fun _ => rfl) rfl (by decide) (fun _ => one_all rfl) (w1y rfl rfl rfl rfl) rfl rfl rfl rfl rfl hO374 (hO391.rs (fun _ => rfl)) (by unfold maxLen; first | omega | (simp; omega)) (by first | omega | (simp; omega)) (by omega) ?_)
                      rintro v394 w395 hO396 hch397 hs398
                      have hl399 : ((xs22 ++ ([⟨false, 1, 7⟩] : List Stp)) ++ ([⟨true, 1, 8⟩] : List Stp)).length = (xs22 ++ ([⟨false, 1, 7⟩] : List Stp)).length + 1 := by first | (have hl0 := (hO391.rs (fun _ => rfl)).len; omega) | (have hl0 := (hO391.rs (fun _ => rfl)).len; simp only [List.length_append, List.length_cons, List.length_nil] at hl0 ⊢; omega) | (simp; omega; done) | simp | rfl
                      clear hO391
                      have hsz400 := hch397.size
                      replace hOj := hOj.ch hch397 (fun s hs hs2 => by first | (have h1 := hOj.off s hs; have h2 := hub379 s hs2; omega) | (have h1 := hub119 s hs; have h2 := hO374.off s hs2; omega) | (have h2 := hub379 s hs2; simp [obl, Value.ownBlock] at hs; omega) | (have h1 := hub119 s hs; simp [obl, Value.ownBlock] at hs2; omega))
                      replace hB84 := hB84.ch hch397 (by first | (refine hO374.off.not ?_; omega) | (intro hs; have := hub379 _ hs; omega))
                      replace hB100 := hB100.ch hch397 (by first | (refine hO374.off.not ?_; omega) | (intro hs; have := hub379 _ hs; omega))
                      replace hO348 := hO348.ch hch397 (fun s hs hs2 => by first | (have h1 := hO348.off s hs; have h2 := hub379 s hs2; omega) | (have h1 := hub353 s hs; have h2 := hO374.off s hs2; omega) | (have h2 := hub379 s hs2; simp [obl, Value.ownBlock] at hs; omega) | (have h1 := hub353 s hs; simp [obl, Value.ownBlock] at hs2; omega))
                      replace hc := (hO374.off.le (by omega)).step hc hch397
                      replace hr142 := (hO374.off.le (by omega)).step hr142 hch397
                      have hub401 := hO396.lt
                      obtain ⟨A402, c403, hv404, hcap405, hcap406⟩ := hO396.form; subst hv404
                      refine ⟨fun _ => hr142, ?_⟩
                      refine tw_one rfl (op_call (w1y rfl rfl rfl rfl) rfl rfl (rc_call C8 rfl rfl) (StepsFit_i _ ((xs22 ++ ([⟨false, 1, 7⟩] : List Stp)) ++ ([⟨true, 1, 8⟩] : List Stp)).length _ ((xs22 ++ ([⟨false, 1, 7⟩] : List Stp)) ++ ([⟨true, 1, 8⟩] : List Stp)) _ (hO396.rs (fun _ => rfl)) (by omega)) ?_)
                      rintro _ w407 ⟨rfl, hch408⟩
                      have hsz409 := hch408.size
                      replace hOj := hOj.ch0 hch408
                      replace hB84 := hB84.ch0 hch408
                      replace hB100 := hB100.ch0 hch408
                      replace hO348 := hO348.ch0 hch408
                      replace hO396 := hO396.ch0 hch408
                      replace hc := hc.step0 hch408
                      replace hr142 := hr142.step0 hch408
                      refine ⟨fun _ => hr142, ?_⟩
                      refine tw_free rfl (w1y rfl rfl rfl rfl) rfl rfl (fun u hu => (pv_not rfl rfl : PV _ _ _ _) u) ?_
                      refine tw_free rfl (w0 rfl) rfl rfl (fun u hu => (pv_pickT (v := (.bool (!(dec (FitsOK ((xs22 ++ ([⟨false, 1, 7⟩] : List Stp)) ++ ([⟨true, 1, 8⟩] : List Stp))))))) rfl rfl rfl : PV _ _ _ _) u) ?_
                      refine tw_free rfl (w0 rfl) rfl rfl (fun u hu => (pv_assign (v := (.bool (!(dec (FitsOK ((xs22 ++ ([⟨false, 1, 7⟩] : List Stp)) ++ ([⟨true, 1, 8⟩] : List Stp))))))) rfl rfl : PV _ _ _ _) u) ?_
                      try clear hB100_r
                      try clear hB84_r
                      try clear hOj_r
                      refine tw_done (hK141 _ _ ?_)
                      refine hK136 _ _ ?_
                      refine cw_ret ?_
                      refine fin1 rfl ?_
                      first
                        | exact ⟨rfl, hc⟩
                        | exact absurd (put_read (‹FitsOK xs22›) (by omega) (‹StepsOK _›)).1 (by assumption)
                        | exact ⟨congrArg Value.bool (by rw [dec_no (put_read (‹FitsOK xs22›) (by omega) (‹StepsOK _›)).2]; rfl), hc⟩
                    · -- first 12
                      refine  (op_bslice [(.agg #[(.bool true), (.int .i64 1), (.int .i64 8)])] Try.underlying23 T27 (w1y rfl rfl rfl rfl) rfl rfl rfl rfl rfl (by simp [Value.cells]) (by decide) ?_)
                      intro g411 w410 hg414 hg415 hK413 hch412
                      have hO416 : Own encP 3 w410 w363.heap.size 27 (.slice (some ⟨g411, 0, none⟩) 1 1) ([⟨true, 1, 8⟩] : List Stp) := Blk.own (xs := ([⟨true, 1, 8⟩] : List Stp)) hK413 (by omega) rfl (by decide) rfl
                      have hsz417 := hch412.size
                      replace hOj := hOj.ch0 hch412
                      replace hB84 := hB84.ch0 hch412
                      replace hB100 := hB100.ch0 hch412
                      replace hO348 := hO348.ch0 hch412
                      replace hO369 := hO369.ch0 hch412
                      replace hc := hc.step0 hch412
                      replace hr142 := hr142.step0 hch412
                      have hub418 := hO416.lt
                      refine ⟨fun _ => hr142, ?_⟩
                      refine tw_one rfl (op_append Try.underlying23 T27 (fun _ => rfl) rfl (by decide) (fun _ => one_all rfl) (w1y rfl rfl rfl rfl) rfl rfl rfl rfl rfl hO369 (hOj.rs (fun _ => rfl)) (by unfold maxLen; first | omega | (simp; omega)) (by first | omega | (simp; omega)) (by omega) ?_)
                      rintro v419 w420 hO421 hch422 hs423
                      replace hO421 : Own encP 3 w420 w359.heap.size 27 v419 (xs22 ++ ([⟨false, 1, 7⟩] : List Stp)) := hO421
                      have hl424 : (xs22 ++ ([⟨false, 1, 7⟩] : List Stp)).length = 0 + (xs22 ++ ([⟨false, 1, 7⟩] : List Stp)).length := by first | (have hl0 := (hOj.rs (fun _ => rfl)).len; omega) | (have hl0 := (hOj.rs (fun _ => rfl)).len; simp only [List.length_append, List.length_cons, List.length_nil] at hl0 ⊢; omega) | (simp; omega; done) | simp | rfl
                      have hsz425 := hch422.size
                      replace hOj := hOj.ch hch422 (fun s hs hs2 => by first | (have h1 := hOj.off s hs; have h2 := hub371 s hs2; omega) | (have h1 := hub119 s hs; have h2 := hO369.off s hs2; omega) | (have h2 := hub371 s hs2; simp [obl, Value.ownBlock] at hs; omega) | (have h1 := hub119 s hs; simp [obl, Value.ownBlock] at hs2; omega))
                      replace hB84 := hB84.ch hch422 (by first | (refine hO369.off.not ?_; omega) | (intro hs; have := hub371 _ hs; omega))
                      replace hB100 := hB100.ch hch422 (by first | (refine hO369.off.not ?_; omega) | (intro hs; have := hub371 _ hs; omega))
                      replace hO348 := hO348.ch hch422 (fun s hs hs2 => by first | (have h1 := hO348.off s hs; have h2 := hub371 s hs2; omega) | (have h1 := hub353 s hs; have h2 := hO369.off s hs2; omega) | (have h2 := hub371 s hs2; simp [obl, Value.ownBlock] at hs; omega) | (have h1 := hub353 s hs; simp [obl, Value.ownBlock] at hs2; omega))
                      replace hO416 := hO416.ch hch422 (fun s hs hs2 => by first | (have h1 := hO416.off s hs; have h2 := hub371 s hs2; omega) | (have h1 := hub418 s hs; have h2 := hO369.off s hs2; omega) | (have h2 := hub371 s hs2; simp [obl, Value.ownBlock] at hs; omega) | (have h1 := hub418 s hs; simp [obl, Value.ownBlock] at hs2; omega))
                      replace hc := (hO369.off.le (by omega)).step hc hch422
                      replace hr142 := (hO369.off.le (by omega)).step hr142 hch422
                      have hub426 := hO421.lt
                      obtain ⟨A427, c428, hv429, hcap430, hcap431⟩ := hO421.form; subst hv429
                      refine ⟨fun _ => hr142, ?_⟩
                      refine tw_one rfl (op_append Try.underlying23 T27 (fun _ => rfl) rfl (by decide) (fun _ => one_all rfl) (w1y rfl rfl rfl rfl) rfl rfl rfl rfl rfl hO421 (hO416.rs (fun _ => rfl)) (by unfold maxLen; first | omega | (simp; omega)) (by first | omega | (simp; omega)) (by omega) ?_)
                      rintro v432 w433 hO434 hch435 hs436
                      have hl437 : ((xs22 ++ ([⟨false, 1, 7⟩] : List Stp)) ++ ([⟨true, 1, 8⟩] : List Stp)).length = (xs22 ++ ([⟨false, 1, 7⟩] : List Stp)).length + 1 := by first | (have hl0 := (hO416.rs (fun _ => rfl)).len; omega) | (have hl0 := (hO416.rs (fun _ => rfl)).len; simp only [List.length_append, List.length_cons, List.length_nil] at hl0 ⊢; omega) | (simp; omega; done) | simp | rfl
                      clear hO416
                      have hsz438 := hch435.size
                      replace hOj := hOj.ch hch435 (fun s hs hs2 => by first | (have h1 := hOj.off s hs; have h2 := hub426 s hs2; omega) | (have h1 := hub119 s hs; have h2 := hO421.off s hs2; omega) | (have h2 := hub426 s hs2; simp [obl, Value.ownBlock] at hs; omega) | (have h1 := hub119 s hs; simp [obl, Value.ownBlock] at hs2; omega))
                      replace hB84 := hB84.ch hch435 (by first | (refine hO421.off.not ?_; omega) | (intro hs; have := hub426 _ hs; omega))
                      replace hB100 := hB100.ch hch435 (by first | (refine hO421.off.not ?_; omega) | (intro hs; have := hub426 _ hs; omega))
                      replace hO348 := hO348.ch hch435 (fun s hs hs2 => by first | (have h1 := hO348.off s hs; have h2 := hub426 s hs2; omega) | (have h1 := hub353 s hs; have h2 := hO421.off s hs2; omega) | (have h2 := hub426 s hs2; simp [obl, Value.ownBlock] at hs; omega) | (have h1 := hub353 s hs; simp [obl, Value.ownBlock] at hs2; omega))
                      replace hc := (hO421.off.le (by omega)).step hc hch435
                      replace hr142 := (hO421.off.le (by omega)).step hr142 hch435
                      have hub439 := hO434.lt
                      obtain ⟨A440, c441, hv442, hcap443, hcap444⟩ := hO434.form; subst hv442
                      refine ⟨fun _ => hr142, ?_⟩
                      refine tw_one rfl (op_call (w1y rfl rfl rfl rfl) rfl rfl (rc_call C8 rfl rfl) (StepsFit_i _ ((xs22 ++ ([⟨false, 1, 7⟩] : List Stp)) ++ ([⟨true, 1, 8⟩] : List Stp)).length _ ((xs22 ++ ([⟨false, 1, 7⟩] : List Stp)) ++ ([⟨true, 1, 8⟩] : List Stp)) _ (hO434.rs (fun _ => rfl)) (by omega)) ?_)
                      rintro _ w445 ⟨rfl, hch446⟩
                      have hsz447 := hch446.size
                      replace hOj := hOj.ch0 hch446
                      replace hB84 := hB84.ch0 hch446
                      replace hB100 := hB100.ch0 hch446
                      replace hO348 := hO348.ch0 hch446
                      replace hO434 := hO434.ch0 hch446
                      replace hc := hc.step0 hch446
                      replace hr142 := hr142.step0 hch446
                      refine ⟨fun _ => hr142, ?_⟩
                      refine tw_free rfl (w1y rfl rfl rfl rfl) rfl rfl (fun u hu => (pv_not rfl rfl : PV _ _ _ _) u) ?_
                      refine tw_free rfl (w0 rfl) rfl rfl (fun u hu => (pv_pickT (v := (.bool (!(dec (FitsOK ((xs22 ++ ([⟨false, 1, 7⟩] : List Stp)) ++ ([⟨true, 1, 8⟩] : List Stp))))))) rfl rfl rfl : PV _ _ _ _) u) ?_
                      refine tw_free rfl (w0 rfl) rfl rfl (fun u hu => (pv_assign (v := (.bool (!(dec (FitsOK ((xs22 ++ ([⟨false, 1, 7⟩] : List Stp)) ++ ([⟨true, 1, 8⟩] : List Stp))))))) rfl rfl : PV _ _ _ _) u) ?_
                      try clear hB100_r
                      try clear hB84_r
                      try clear hOj_r
                      refine tw_done (hK141 _ _ ?_)
                      refine hK136 _ _ ?_
                      refine cw_ret ?_
                      refine fin1 rfl ?_
                      first
                        | exact ⟨rfl, hc⟩
                        | exact absurd (put_read (‹FitsOK xs22›) (by omega) (‹StepsOK _›)).1 (by assumption)
                        | exact ⟨congrArg Value.bool (by rw [dec_no (put_read (‹FitsOK xs22›) (by omega) (‹StepsOK _›)).2]; rfl), hc⟩
                  · -- first 12
                    refine  (op_bslice [(.agg #[(.bool true), (.int .i64 1), (.int .i64 8)])] Try.underlying23 T27 (w1y rfl rfl rfl rfl) rfl rfl rfl rfl rfl (by simp [Value.cells]) (by decide) ?_)
                    intro g449 w448 hg452 hg453 hK451 hch450
                    have hO454 : Own encP 3 w448 w359.heap.size 27 (.slice (some ⟨g449, 0, none⟩) 1 1) ([⟨true, 1, 8⟩] : List Stp) := Blk.own (xs := ([⟨true, 1, 8⟩] : List Stp)) hK451 (by omega) rfl (by decide) rfl
                    have hsz455 := hch450.size
                    replace hOj := hOj.ch0 hch450
                    replace hB84 := hB84.ch0 hch450
                    replace hB100 := hB100.ch0 hch450
                    replace hO348 := hO348.ch0 hch450
                    replace hc := hc.step0 hch450
                    replace hr142 := hr142.step0 hch450
                    have hub456 := hO454.lt
                    refine ⟨fun _ => hr142, ?_⟩
                    refine tw_one rfl (op_bslice [] Try.underlying23 T27 (w1y rfl rfl rfl rfl) rfl rfl rfl rfl rfl (by simp [Value.cells]) (by decide) ?_)
                    intro g458 w457 hg461 hg462 hK460 hch459
                    have hO463 : Own encP 3 w457 w448.heap.size 27 (.slice (some ⟨g458, 0, none⟩) 0 0) ([] : List Stp) := Blk.own (xs := ([] : List Stp)) hK460 (by omega) rfl (by decide) rfl
                    have hsz464 := hch459.size
                    replace hOj := hOj.ch0 hch459
                    replace hB84 := hB84.ch0 hch459
                    replace hB100 := hB100.ch0 hch459
                    replace hO348 := hO348.ch0 hch459
                    replace hO454 := hO454.ch0 hch459
                    replace hc := hc.step0 hch459
                    replace hr142 := hr142.step0 hch459
                    have hub465 := hO463.lt
                    refine ⟨fun _ => hr142, ?_⟩
                    refine tw_one rfl (op_append Try.underlying23 T27 (fun _ => rfl) rfl (by decide) (fun _ => one_all rfl) (w1y rfl rfl rfl rfl) rfl rfl rfl rfl rfl hO463 (hOj.rs (fun _ => rfl)) (by unfold maxLen; first | omega | (simp; omega)) (by first | omega | (simp; omega)) (by omega) ?_)
                    rintro v466 w467 hO468 hch469 hs470
                    replace hO468 : Own encP 3 w467 w448.heap.size 27 v466 (xs22 ++ ([⟨false, 1, 7⟩] : List Stp)) := hO468
                    have hl471 : (xs22 ++ ([⟨false, 1, 7⟩] : List Stp)).length = 0 + (xs22 ++ ([⟨false, 1, 7⟩] : List Stp)).length := by first | (have hl0 := (hOj.rs (fun _ => rfl)).len; omega) | (have hl0 := (hOj.rs (fun _ => rfl)).len; simp only [List.length_append, List.length_cons, List.length_nil] at hl0 ⊢; omega) | (simp; omega; done) | simp | rfl
                    have hsz472 := hch469.size
                    replace hOj := hOj.ch hch469 (fun s hs hs2 => by first | (have h1 := hOj.off s hs; have h2 := hub465 s hs2; omega) | (have h1 := hub119 s hs; have h2 := hO463.off s hs2; omega) | (have h2 := hub465 s hs2; simp [obl, Value.ownBlock] at hs; omega) | (have h1 := hub119 s hs; simp [obl, Value.ownBlock] at hs2; omega))
                    replace hB84 := hB84.ch hch469 (by first | (refine hO463.off.not ?_; omega) | (intro hs; have := hub465 _ hs; omega))
                    replace hB100 := hB100.ch hch469 (by first | (refine hO463.off.not ?_; omega) | (intro hs; have := hub465 _ hs; omega))
                    replace hO348 := hO348.ch hch469 (fun s hs hs2 => by first | (have h1 := hO348.off s hs; have h2 := hub465 s hs2; omega) | (have h1 := hub353 s hs; have h2 := hO463.off s hs2; omega) | (have h2 := hub465 s hs2; simp [obl, Value.ownBlock] at hs; omega) | (have h1 := hub353 s hs; simp [obl, Value.ownBlock] at hs2; omega))
                    replace hO454 := hO454.ch hch469 (fun s hs hs2 => by first | (have h1 := hO454.off s hs; have h2 := hub465 s hs2; omega) | (have h1 := hub456 s hs; have h2 := hO463.off s hs2; omega) | (have h2 := hub465 s hs2; simp [obl, Value.ownBlock] at hs; omega) | (have h1 := hub456 s hs; simp [obl, Value.ownBlock] at hs2; omega))
                    replace hc := (hO463.off.le (by omega)).step hc hch469
                    replace hr142 := (hO463.off.le (by omega)).step hr142 hch469
                    have hub473 := hO468.lt
                    obtain ⟨A474, c475, hv476, hcap477, hcap478⟩ := hO468.form; subst hv476
                    refine ⟨fun _ => hr142, ?_⟩
                    refine tw_one rfl (op_append Try.underlying23 T27 (fun _ => rfl) rfl (by decide) (fun _ => one_all rfl) (w1y rfl rfl rfl rfl) rfl rfl rfl rfl rfl hO468 (hO454.rs (fun _ => rfl)) (by unfold maxLen; first | omega | (simp; omega)) (by first | omega | (simp; omega)) (by omega) ?_)
                    rintro v479 w480 hO481 hch482 hs483
                    have hl484 : ((xs22 ++ ([⟨false, 1, 7⟩] : List Stp)) ++ ([⟨true, 1, 8⟩] : List Stp)).length = (xs22 ++ ([⟨false, 1, 7⟩] : List Stp)).length + 1 := by first | (have hl0 := (hO454.rs (fun _ => rfl)).len; omega) | (have hl0 := (hO454.rs (fun _ => rfl)).len; simp only [List.length_append, List.length_cons, List.length_nil] at hl0 ⊢; omega) | (simp; omega; done) | simp | rfl
                    clear hO454
                    have hsz485 := hch482.size
                    replace hOj := hOj.ch hch482 (fun s hs hs2 => by first | (have h1 := hOj.off s hs; have h2 := hub473 s hs2; omega) | (have h1 := hub119 s hs; have h2 := hO468.off s hs2; omega) | (have h2 := hub473 s hs2; simp [obl, Value.ownBlock] at hs; omega) | (have h1 := hub119 s hs; simp [obl, Value.ownBlock] at hs2; omega))
                    replace hB84 := hB84.ch hch482 (by first | (refine hO468.off.not ?_; omega) | (intro hs; have := hub473 _ hs; omega))
                    replace hB100 := hB100.ch hch482 (by first | (refine hO468.off.not ?_; omega) | (intro hs; have := hub473 _ hs; omega))
                    replace hO348 := hO348.ch hch482 (fun s hs hs2 => by first | (have h1 := hO348.off s hs; have h2 := hub473 s hs2; omega) | (have h1 := hub353 s hs; have h2 := hO468.off s hs2; omega) | (have h2 := hub473 s hs2; simp [obl, Value.ownBlock] at hs; omega) | (have h1 := hub353 s hs; simp [obl, Value.ownBlock] at hs2; omega))
                    replace hc := (hO468.off.le (by omega)).step hc hch482
                    replace hr142 := (hO468.off.le (by omega)).step hr142 hch482
                    have hub486 := hO481.lt
                    obtain ⟨A487, c488, hv489, hcap490, hcap491⟩ := hO481.form; subst hv489
                    refine ⟨fun _ => hr142, ?_⟩
                    refine tw_one rfl (op_call (w1y rfl rfl rfl rfl) rfl rfl (rc_call C8 rfl rfl) (StepsFit_i _ ((xs22 ++ ([⟨false, 1, 7⟩] : List Stp)) ++ ([⟨true, 1, 8⟩] : List Stp)).length _ ((xs22 ++ ([⟨false, 1, 7⟩] : List Stp)) ++ ([⟨true, 1, 8⟩] : List Stp)) _ (hO481.rs (fun _ => rfl)) (by omega)) ?_)
                    rintro _ w492 ⟨rfl, hch493⟩
                    have hsz494 := hch493.size
                    replace hOj := hOj.ch0 hch493
                    replace hB84 := hB84.ch0 hch493
                    replace hB100 := hB100.ch0 hch493
                    replace hO348 := hO348.ch0 hch493
                    replace hO481 := hO481.ch0 hch493
                    replace hc := hc.step0 hch493
                    replace hr142 := hr142.step0 hch493
                    refine ⟨fun _ => hr142, ?_⟩
                    refine tw_free rfl (w1y rfl rfl rfl rfl) rfl rfl (fun u hu => (pv_not rfl rfl : PV _ _ _ _) u) ?_
                    refine tw_free rfl (w0 rfl) rfl rfl (fun u hu => (pv_pickT (v := (.bool (!(dec (FitsOK ((xs22 ++ ([⟨false, 1, 7⟩] : List Stp)) ++ ([⟨true, 1, 8⟩] : List Stp))))))) rfl rfl rfl : PV _ _ _ _) u) ?_
                    refine tw_free rfl (w0 rfl) rfl rfl (fun u hu => (pv_assign (v := (.bool (!(dec (FitsOK ((xs22 ++ ([⟨false, 1, 7⟩] : List Stp)) ++ ([⟨true, 1, 8⟩] : List Stp))))))) rfl rfl : PV _ _ _ _) u) ?_
                    try clear hB100_r
                    try clear hB84_r
                    try clear hOj_r
                    refine tw_done (hK141 _ _ ?_)
                    refine hK136 _ _ ?_
                    refine cw_ret ?_
                    refine fin1 rfl ?_
                    first
                      | exact ⟨rfl, hc⟩
                      | exact absurd (put_read (‹FitsOK xs22›) (by omega) (‹StepsOK _›)).1 (by assumption)
                      | exact ⟨congrArg Value.bool (by rw [dec_no (put_read (‹FitsOK xs22›) (by omega) (‹StepsOK _›)).2]; rfl), hc⟩
                · -- no
                  replace hb362 := dec_f hb362
                  refine tw_pass rfl (w1n1 rfl rfl rfl rfl) rfl rfl ?_
                  refine tw_pass rfl (w1n1 rfl rfl rfl rfl) rfl rfl ?_
                  refine tw_two rfl rfl ?_ ?_
                  · -- first 8
                    refine  (op_pass (w1n1 rfl rfl rfl rfl) rfl rfl ?_)
                    refine ⟨fun _ => hr142, ?_⟩
                    refine tw_two rfl rfl ?_ ?_
                    · -- first 10
                      refine  (op_pass (w1n1 rfl rfl rfl rfl) rfl rfl ?_)
                      refine ⟨fun _ => hr142, ?_⟩
                      refine tw_one rfl (op_pass (w1n1 rfl rfl rfl rfl) rfl rfl ?_)
                      refine ⟨fun _ => hr142, ?_⟩
                      refine tw_one rfl (op_pass (w1n1 rfl rfl rfl rfl) rfl rfl ?_)
                      refine ⟨fun _ => hr142, ?_⟩
                      refine tw_one rfl (op_pass (w1n1 rfl rfl rfl rfl) rfl rfl ?_)
                      refine ⟨fun _ => hr142, ?_⟩
                      refine tw_pass rfl (w1n1 rfl rfl rfl rfl) rfl rfl ?_
                      refine tw_free rfl (w0 rfl) rfl rfl (fun u hu => (pv_pickF (v := (.bool false)) rfl rfl rfl : PV _ _ _ _) u) ?_
                      refine tw_free rfl (w0 rfl) rfl rfl (fun u hu => (pv_assign (v := (.bool false)) rfl rfl : PV _ _ _ _) u) ?_
                      try clear hB100_r
                      try clear hB84_r
                      try clear hOj_r
                      refine tw_done (hK141 _ _ ?_)
                      refine hK136 _ _ ?_
                      refine cw_ret ?_
                      refine fin1 rfl ?_
                      first
                        | exact ⟨rfl, hc⟩
                        | exact absurd (put_read (‹FitsOK xs22›) (by omega) (‹StepsOK _›)).1 (by assumption)
                        | exact ⟨congrArg Value.bool (by rw [dec_no (put_read (‹FitsOK xs22›) (by omega) (‹StepsOK _›)).2]; rfl), hc⟩
                    · -- first 12
                      refine  (op_pass (w1n1 rfl rfl rfl rfl) rfl rfl ?_)
                      refine ⟨fun _ => hr142, ?_⟩
                      refine tw_one rfl (op_pass (w1n1 rfl rfl rfl rfl) rfl rfl ?_)
                      refine ⟨fun _ => hr142, ?_⟩
                      refine tw_one rfl (op_pass (w1n1 rfl rfl rfl rfl) rfl rfl ?_)
                      refine ⟨fun _ => hr142, ?_⟩
                      refine tw_one rfl (op_pass (w1n1 rfl rfl rfl rfl) rfl rfl ?_)
                      refine ⟨fun _ => hr142, ?_⟩
                      refine tw_pass rfl (w1n1 rfl rfl rfl rfl) rfl rfl ?_
                      refine tw_free rfl (w0 rfl) rfl rfl (fun u hu => (pv_pickF (v := (.bool false)) rfl rfl rfl : PV _ _ _ _) u) ?_
                      refine tw_free rfl (w0 rfl) rfl rfl (fun u hu => (pv_assign (v := (.bool false)) rfl rfl : PV _ _ _ _) u) ?_
                      try clear hB100_r
                      try clear hB84_r
                      try clear hOj_r
                      refine tw_done (hK141 _ _ ?_)
                      refine hK136 _ _ ?_
                      refine cw_ret ?_
                      refine fin1 rfl ?_
                      first
                        | exact ⟨rfl, hc⟩
                        | exact absurd (put_read (‹FitsOK xs22›) (by omega) (‹StepsOK _›)).1 (by assumption)
                        | exact ⟨congrArg Value.bool (by rw [dec_no (put_read (‹FitsOK xs22›) (by omega) (‹StepsOK _›)).2]; rfl), hc⟩
                  · -- first 12
                    refine  (op_pass (w1n1 rfl rfl rfl rfl) rfl rfl ?_)
                    refine ⟨fun _ => hr142, ?_⟩
                    refine tw_one rfl (op_pass (w1n1 rfl rfl rfl rfl) rfl rfl ?_)
                    refine ⟨fun _ => hr142, ?_⟩
                    refine tw_one rfl (op_pass (w1n1 rfl rfl rfl rfl) rfl rfl ?_)
                    refine ⟨fun _ => hr142, ?_⟩
                    refine tw_one rfl (op_pass (w1n1 rfl rfl rfl rfl) rfl rfl ?_)
                    refine ⟨fun _ => hr142, ?_⟩
                    refine tw_one rfl (op_pass (w1n1 rfl rfl rfl rfl) rfl rfl ?_)
                    refine ⟨fun _ => hr142, ?_⟩
                    refine tw_pass rfl (w1n1 rfl rfl rfl rfl) rfl rfl ?_
                    refine tw_free rfl (w0 rfl) rfl rfl (fun u hu => (pv_pickF (v := (.bool false)) rfl rfl rfl : PV _ _ _ _) u) ?_
                    refine tw_free rfl (w0 rfl) rfl rfl (fun u hu => (pv_assign (v := (.bool false)) rfl rfl : PV _ _ _ _) u) ?_
                    try clear hB100_r
                    try clear hB84_r
                    try clear hOj_r
                    refine tw_done (hK141 _ _ ?_)
                    refine hK136 _ _ ?_
                    refine cw_ret ?_
                    refine fin1 rfl ?_
                    first
                      | exact ⟨rfl, hc⟩
                      | exact absurd (put_read (‹FitsOK xs22›) (by omega) (‹StepsOK _›)).1 (by assumption)
                      | exact ⟨congrArg Value.bool (by rw [dec_no (put_read (‹FitsOK xs22›) (by omega) (‹StepsOK _›)).2]; rfl), hc⟩
            · -- first 4
              refine  (op_bslice [(.agg #[(.bool true), (.int .i64 1), (.int .i64 7)])] Try.underlying23 T27 (w0 rfl) rfl rfl rfl rfl rfl (by simp [Value.cells]) (by decide) ?_)
              intro g496 w495 hg499 hg500 hK498 hch497
              have hO501 : Own encP 3 w495 w137.heap.size 27 (.slice (some ⟨g496, 0, none⟩) 1 1) ([⟨true, 1, 7⟩] : List Stp) := Blk.own (xs := ([⟨true, 1, 7⟩] : List Stp)) hK498 (by omega) rfl (by decide) rfl
              have hsz502 := hch497.size
              replace hOj := hOj.ch0 hch497
              replace hB84 := hB84.ch0 hch497
              replace hB100 := hB100.ch0 hch497
              replace hc := hc.step0 hch497
              replace hr142 := hr142.step0 hch497
              have hub503 := hO501.lt
              refine ⟨fun _ => hr142, ?_⟩
              refine tw_one rfl (op_bslice [] Try.underlying23 T27 (w0 rfl) rfl rfl rfl rfl rfl (by simp [Value.cells]) (by decide) ?_)
              intro g505 w504 hg508 hg509 hK507 hch506
              have hO510 : Own encP 3 w504 w495.heap.size 27 (.slice (some ⟨g505, 0, none⟩) 0 0) ([] : List Stp) := Blk.own (xs := ([] : List Stp)) hK507 (by omega) rfl (by decide) rfl
              have hsz511 := hch506.size
              replace hOj := hOj.ch0 hch506
              replace hB84 := hB84.ch0 hch506
              replace hB100 := hB100.ch0 hch506
              replace hO501 := hO501.ch0 hch506
              replace hc := hc.step0 hch506
              replace hr142 := hr142.step0 hch506
              have hub512 := hO510.lt
              refine ⟨fun _ => hr142, ?_⟩
              refine tw_one rfl (op_append Try.underlying23 T27 (fun _ => rfl) rfl (by decide) (fun _ => one_all rfl) (w0 rfl) rfl rfl rfl rfl rfl hO510 (hOj.rs (fun _ => rfl)) (by unfold maxLen; first | omega | (simp; omega)) (by first | omega | (simp; omega)) (by omega) ?_)
              rintro v513 w514 hO515 hch516 hs517
              replace hO515 : Own encP 3 w514 w495.heap.size 27 v513 (xs22 ++ ([⟨false, 1, 7⟩] : List Stp)) := hO515
              have hl518 : (xs22 ++ ([⟨false, 1, 7⟩] : List Stp)).length = 0 + (xs22 ++ ([⟨false, 1, 7⟩] : List Stp)).length := by first | (have hl0 := (hOj.rs (fun _ => rfl)).len; omega) | (have hl0 := (hOj.rs (fun _ => rfl)).len; simp only [List.length_append, List.length_cons, List.length_nil] at hl0 ⊢; omega) | (simp; omega; done) | simp | rfl
              have hsz519 := hch516.size
              replace hOj := hOj.ch hch516 (fun s hs hs2 => by first | (have h1 := hOj.off s hs; have h2 := hub512 s hs2; omega) | (have h1 := hub119 s hs; have h2 := hO510.off s hs2; omega) | (have h2 := hub512 s hs2; simp [obl, Value.ownBlock] at hs; omega) | (have h1 := hub119 s hs; simp [obl, Value.ownBlock] at hs2; omega))
              replace hB84 := hB84.ch hch516 (by first | (refine hO510.off.not ?_; omega) | (intro hs; have := hub512 _ hs; omega))
              replace hB100 := hB100.ch hch516 (by first | (refine hO510.off.not ?_; omega) | (intro hs; have := hub512 _ hs; omega))
              replace hO501 := hO501.ch hch516 (fun s hs hs2 => by first | (have h1 := hO501.off s hs; have h2 := hub512 s hs2; omega) | (have h1 := hub503 s hs; have h2 := hO510.off s hs2; omega) | (have h2 := hub512 s hs2; simp [obl, Value.ownBlock] at hs; omega) | (have h1 := hub503 s hs; simp [obl, Value.ownBlock] at hs2; omega))
              replace hc := (hO510.off.le (by omega)).step hc hch516
              replace hr142 := (hO510.off.le (by omega)).step hr142 hch516
              have hub520 := hO515.lt
              obtain ⟨A521, c522, hv523, hcap524, hcap525⟩ := hO515.form; subst hv523
              refine ⟨fun _ => hr142, ?_⟩
              refine tw_one rfl (op_append Try.underlying23 T27 (fun _ => rfl) rfl (by decide) (fun _ => one_all rfl) (w0 rfl) rfl rfl rfl rfl rfl hO515 (hO501.rs (fun _ => rfl)) (by unfold maxLen; first | omega | (simp; omega)) (by first | omega | (simp; omega)) (by omega) ?_)
              rintro v526 w527 hO528 hch529 hs530
              have hl531 : ((xs22 ++ ([⟨false, 1, 7⟩] : List Stp)) ++ ([⟨true, 1, 7⟩] : List Stp)).length = (xs22 ++ ([⟨false, 1, 7⟩] : List Stp)).length + 1 := by first | (have hl0 := (hO501.rs (fun _ => rfl)).len; omega) | (have hl0 := (hO501.rs (fun _ => rfl)).len; simp only [List.length_append, List.length_cons, List.length_nil] at hl0 ⊢; omega) | (simp; omega; done) | simp | rfl
              clear hO501
              have hsz532 := hch529.size
              replace hOj := hOj.ch hch529 (fun s hs hs2 => by first | (have h1 := hOj.off s hs; have h2 := hub520 s hs2; omega) | (have h1 := hub119 s hs; have h2 := hO515.off s hs2; omega) | (have h2 := hub520 s hs2; simp [obl, Value.ownBlock] at hs; omega) | (have h1 := hub119 s hs; simp [obl, Value.ownBlock] at hs2; omega))
              replace hB84 := hB84.ch hch529 (by first | (refine hO515.off.not ?_; omega) | (intro hs; have := hub520 _ hs; omega))
              replace hB100 := hB100.ch hch529 (by first | (refine hO515.off.not ?_; omega) | (intro hs; have := hub520 _ hs; omega))
              replace hc := (hO515.off.le (by omega)).step hc hch529
              replace hr142 := (hO515.off.le (by omega)).step hr142 hch529
              have hub533 := hO528.lt
              obtain ⟨A534, c535, hv536, hcap537, hcap538⟩ := hO528.form; subst hv536
              refine ⟨fun _ => hr142, ?_⟩
              refine tw_one rfl (op_call (w0 rfl) rfl rfl (rc_call C8 rfl rfl) (StepsFit_i _ ((xs22 ++ ([⟨false, 1, 7⟩] : List Stp)) ++ ([⟨true, 1, 7⟩] : List Stp)).length _ ((xs22 ++ ([⟨false, 1, 7⟩] : List Stp)) ++ ([⟨true, 1, 7⟩] : List Stp)) _ (hO528.rs (fun _ => rfl)) (by omega)) ?_)
              rintro _ w539 ⟨rfl, hch540⟩
              have hsz541 := hch540.size
              replace hOj := hOj.ch0 hch540
              replace hB84 := hB84.ch0 hch540
              replace hB100 := hB100.ch0 hch540
              replace hO528 := hO528.ch0 hch540
              replace hc := hc.step0 hch540
              replace hr142 := hr142.step0 hch540
              refine ⟨fun _ => hr142, ?_⟩
              refine tw_free rfl (w0 rfl) rfl rfl (fun u hu => (pv_move (v := (.bool (dec (FitsOK ((xs22 ++ ([⟨false, 1, 7⟩] : List Stp)) ++ ([⟨true, 1, 7⟩] : List Stp)))))) rfl rfl : PV _ _ _ _) u) ?_
              refine tw_split 53 rfl (fun hb542 => ?_) (fun hb542 => ?_)
              · -- yes
                replace hb542 := dec_t hb542
                refine tw_free rfl (w1y rfl rfl rfl rfl) rfl rfl (fun u hu => (pv_move (v := (.slice Aj (xs22 ++ ([⟨false, 1, 7⟩] : List Stp)).length cj)) rfl rfl : PV _ _ _ _) u) ?_
                refine tw_free rfl (w1y rfl rfl rfl rfl) rfl rfl (fun u hu => lv_loadN T27 rfl rfl rfl (fun j v hv => (hB100_r.ch hu (by simp)).cellA hv)) ?_
                refine tw_two rfl rfl ?_ ?_
                · -- first 8
                  refine  (op_bslice [] Try.underlying23 T27 (w1y rfl rfl rfl rfl) rfl rfl rfl rfl rfl (by simp [Value.cells]) (by decide) ?_)
                  intro g544 w543 hg547 hg548 hK546 hch545
                  have hO549 : Own encP 3 w543 w539.heap.size 27 (.slice (some ⟨g544, 0, none⟩) 0 0) ([] : List Stp) := Blk.own (xs := ([] : List Stp)) hK546 (by omega) rfl (by decide) rfl
                  have hsz550 := hch545.size
                  replace hOj := hOj.ch0 hch545
                  replace hB84 := hB84.ch0 hch545
                  replace hB100 := hB100.ch0 hch545
                  replace hO528 := hO528.ch0 hch545
                  replace hc := hc.step0 hch545
                  replace hr142 := hr142.step0 hch545
                  have hub551 := hO549.lt
                  refine ⟨fun _ => hr142, ?_⟩
                  refine tw_two rfl rfl ?_ ?_
                  · -- first 10
                    refine  (op_append Try.underlying23 T27 (fun _ => rfl) rfl (by decide) (fun _ => one_all rfl) (w1y rfl rfl rfl rfl) rfl rfl rfl rfl rfl hO549 (hOj.rs (fun _ => rfl)) (by unfold maxLen; first | omega | (simp; omega)) (by first | omega | (simp; omega)) (by omega) ?_)
                    rintro v552 w553 hO554 hch555 hs556
                    replace hO554 : Own encP 3 w553 w539.heap.size 27 v552 (xs22 ++ ([⟨false, 1, 7⟩] : List Stp)) := hO554
                    have hl557 : (xs22 ++ ([⟨false, 1, 7⟩] : List Stp)).length = 0 + (xs22 ++ ([⟨false, 1, 7⟩] : List Stp)).length := by first | (have hl0 := (hOj.rs (fun _ => rfl)).len; omega) | (have hl0 := (hOj.rs (fun _ => rfl)).len; simp only [List.length_append, List.length_cons, List.length_nil] at hl0 ⊢; omega) | (simp; omega; done) | simp | rfl
                    have hsz558 := hch555.size
                    replace hOj := hOj.ch hch555 (fun s hs hs2 => by first | (have h1 := hOj.off s hs; have h2 := hub551 s hs2; omega) | (have h1 := hub119 s hs; have h2 := hO549.off s hs2; omega) | (have h2 := hub551 s hs2; simp [obl, Value.ownBlock] at hs; omega) | (have h1 := hub119 s hs; simp [obl, Value.ownBlock] at hs2; omega))
                    replace hB84 := hB84.ch hch555 (by first | (refine hO549.off.not ?_; omega) | (intro hs; have := hub551 _ hs; omega))
                    replace hB100 := hB100.ch hch555 (by first | (refine hO549.off.not ?_; omega) | (intro hs; have := hub551 _ hs; omega))
                    replace hO528 := hO528.ch hch555 (fun s hs hs2 => by first | (have h1 := hO528.off s hs; have h2 := hub551 s hs2; omega) | (have h1 := hub533 s hs; have h2 := hO549.off s hs2; omega) | (have h2 := hub551 s hs2; simp [obl, Value.ownBlock] at hs; omega) | (have h1 := hub533 s hs; simp [obl, Value.ownBlock] at hs2; omega))
                    replace hc := (hO549.off.le (by omega)).step hc hch555
                    replace hr142 := (hO549.off.le (by omega)).step hr142 hch555
                    have hub559 := hO554.lt
                    obtain ⟨A560, c561, hv562, hcap563, hcap564⟩ := hO554.form; subst hv562
                    refine ⟨fun _ => hr142, ?_⟩
                    refine tw_one rfl (op_bslice [(.agg #[(.bool true), (.int .i64 1), (.int .i64 8)])] Try.underlying23 T27 (w1y rfl rfl rfl rfl) rfl rfl rfl rfl rfl (by simp [Value.cells]) (by decide) ?_)
                    intro g566 w565 hg569 hg570 hK568 hch567
                    have hO571 : Own encP 3 w565 w553.heap.size 27 (.slice (some ⟨g566, 0, none⟩) 1 1) ([⟨true, 1, 8⟩] : List Stp) := Blk.own (xs := ([⟨true, 1, 8⟩] : List Stp)) hK568 (by omega) rfl (by decide) rfl
                    have hsz572 := hch567.size
                    replace hOj := hOj.ch0 hch567
                    replace hB84 := hB84.ch0 hch567
                    replace hB100 := hB100.ch0 hch567
                    replace hO528 := hO528.ch0 hch567
                    replace hO554 := hO554.ch0 hch567
                    replace hc := hc.step0 hch567
                    replace hr142 := hr142.step0 hch567
                    have hub573 := hO571.lt
                    refine ⟨fun _ => hr142, ?_⟩
                    refine tw_one rfl (op_append Try.underlying23 T27 (fun _ => rfl) rfl (by decide) (fun _ => one_all rfl) (w1y rfl rfl rfl rfl) rfl rfl rfl rfl rfl hO554 (hO571.rs (fun _ => rfl)) (by unfold maxLen; first | omega | (simp; omega)) (by first | omega | (simp; omega)) (by omega) ?_)
                    rintro v574 w575 hO576 hch577 hs578
                    have hl579 : ((xs22 ++ ([⟨false, 1, 7⟩] : List Stp)) ++ ([⟨true, 1, 8⟩] : List Stp)).length = (xs22 ++ ([⟨false, 1, 7⟩] : List Stp)).length + 1 := by first | (have hl0 := (hO571.rs (fun _ => rfl)).len; omega) | (have hl0 := (hO571.rs (fun _ => rfl)).len; simp only [List.length_append, List.length_cons, List.length_nil] at hl0 ⊢; omega) | (simp; omega; done) | simp | rfl
                    clear hO571
                    have hsz580 := hch577.size
                    replace hOj := hOj.ch hch577 (fun s hs hs2 => by first | (have h1 := hOj.off s hs; have h2 := hub559 s hs2; omega) | (have h1 := hub119 s hs; have h2 := hO554.off s hs2; omega) | (have h2 := hub559 s hs2; simp [obl, Value.ownBlock] at hs; omega) | (have h1 := hub119 s hs; simp [obl, Value.ownBlock] at hs2; omega))
                    replace hB84 := hB84.ch hch577 (by first | (refine hO554.off.not ?_; omega) | (intro hs; have := hub559 _ hs; omega))
                    replace hB100 := hB100.ch hch577 (by first | (refine hO554.off.not ?_; omega) | (intro hs; have := hub559 _ hs; omega))
                    replace hO528 := hO528.ch hch577 (fun s hs hs2 => by first | (have h1 := hO528.off s hs; have h2 := hub559 s hs2; omega) | (have h1 := hub533 s hs; have h2 := hO554.off s hs2; omega) | (have h2 := hub559 s hs2; simp [obl, Value.ownBlock] at hs; omega) | (have h1 := hub533 s hs; simp [obl, Value.ownBlock] at hs2; omega))
                    replace hc := (hO554.off.le (by omega)).step hc hch577
                    replace hr142 := (hO554.off.le (by omega)).step hr142 hch577
                    have hub581 := hO576.lt
                    obtain ⟨A582, c583, hv584, hcap585, hcap586⟩ := hO576.form; subst hv584
                    refine ⟨fun _ => hr142, ?_⟩
                    refine tw_one rfl (op_call (w1y rfl rfl rfl rfl) rfl rfl (rc_call C8 rfl rfl) (StepsFit_i _ ((xs22 ++ ([⟨false, 1, 7⟩] : List Stp)) ++ ([⟨true, 1, 8⟩] : List Stp)).length _ ((xs22 ++ ([⟨false, 1, 7⟩] : List Stp)) ++ ([⟨true, 1, 8⟩] : List Stp)) _ (hO576.rs (fun _ => rfl)) (by omega)) ?_)
                    rintro _ w587 ⟨rfl, hch588⟩
                    have hsz589 := hch588.size
                    replace hOj := hOj.ch0 hch588
                    replace hB84 := hB84.ch0 hch588
                    replace hB100 := hB100.ch0 hch588
                    replace hO528 := hO528.ch0 hch588
                    replace hO576 := hO576.ch0 hch588
                    replace hc := hc.step0 hch588
                    replace hr142 := hr142.step0 hch588
                    refine ⟨fun _ => hr142, ?_⟩
                    refine tw_free rfl (w1y rfl rfl rfl rfl) rfl rfl (fun u hu => (pv_not rfl rfl : PV _ _ _ _) u) ?_
                    refine tw_free rfl (w0 rfl) rfl rfl (fun u hu => (pv_pickT (v := (.bool (!(dec (FitsOK ((xs22 ++ ([⟨false, 1, 7⟩] : List Stp)) ++ ([⟨true, 1, 8⟩] : List Stp))))))) rfl rfl rfl : PV _ _ _ _) u) ?_
                    refine tw_free rfl (w0 rfl) rfl rfl (fun u hu => (pv_assign (v := (.bool (!(dec (FitsOK ((xs22 ++ ([⟨false, 1, 7⟩] : List Stp)) ++ ([⟨true, 1, 8⟩] : List Stp))))))) rfl rfl : PV _ _ _ _) u) ?_
                    try clear hB100_r
                    try clear hB84_r
                    try clear hOj_r
                    refine tw_done (hK141 _ _ ?_)
                    refine hK136 _ _ ?_
                    refine cw_ret ?_
                    refine fin1 rfl ?_
                    first
                      | exact ⟨rfl, hc⟩
                      | exact absurd (put_read (‹FitsOK xs22›) (by omega) (‹StepsOK _›)).1 (by assumption)
                      | exact ⟨congrArg Value.bool (by rw [dec_no (put_read (‹FitsOK xs22›) (by omega) (‹StepsOK _›)).2]; rfl), hc⟩
                  · -- first 12
                    refine  (op_bslice [(.agg #[(.bool true), (.int .i64 1), (.int .i64 8)])] Try.underlying23 T27 (w1y rfl rfl rfl rfl) rfl rfl rfl rfl rfl (by simp [Value.cells]) (by decide) ?_)
                    intro g591 w590 hg594 hg595 hK593 hch592
                    have hO596 : Own encP 3 w590 w543.heap.size 27 (.slice (some ⟨g591, 0, none⟩) 1 1) ([⟨true, 1, 8⟩] : List Stp) := Blk.own (xs := ([⟨true, 1, 8⟩] : List Stp)) hK593 (by omega) rfl (by decide) rfl
                    have hsz597 := hch592.size
                    replace hOj := hOj.ch0 hch592
                    replace hB84 := hB84.ch0 hch592
                    replace hB100 := hB100.ch0 hch592
                    replace hO528 := hO528.ch0 hch592
                    replace hO549 := hO549.ch0 hch592
                    replace hc := hc.step0 hch592
                    replace hr142 := hr142.step0 hch592
                    have hub598 := hO596.lt
                    refine ⟨fun _ => hr142, ?_⟩
                    refine tw_one rfl (op_append Try.underlying23 T27 (fun _ => rfl) rfl (by decide) (fun _ => one_all rfl) (w1y rfl rfl rfl rfl) rfl rfl rfl rfl rfl hO549 (hOj.rs (fun _ => rfl)) (by unfold maxLen; first | omega | (simp; omega)) (by first | omega | (simp; omega)) (by omega) ?_)
                    rintro v599 w600 hO601 hch602 hs603
                    replace hO601 : Own encP 3 w600 w539.heap.size 27 v599 (xs22 ++ ([⟨false, 1, 7⟩] : List Stp)) := hO601
                    have hl604 : (xs22 ++ ([⟨false, 1, 7⟩] : List Stp)).length = 0 + (xs22 ++ ([⟨false, 1, 7⟩] : List Stp)).length := by first | (have hl0 := (hOj.rs (fun _ => rfl)).len; omega) | (have hl0 := (hOj.rs (fun _ => rfl)).len; simp only [List.length_append, List.length_cons, List.length_nil] at hl0 ⊢; omega) | (simp; omega; done) | simp | rfl
                    have hsz605 := hch602.size
                    replace hOj := hOj.ch hch602 (fun s hs hs2 => by first | (have h1 := hOj.off s hs; have h2 := hub551 s hs2; omega) | (have h1 := hub119 s hs; have h2 := hO549.off s hs2; omega) | (have h2 := hub551 s hs2; simp [obl, Value.ownBlock] at hs; omega) | (have h1 := hub119 s hs; simp [obl, Value.ownBlock] at hs2; omega))
                    replace hB84 := hB84.ch hch602 (by first | (refine hO549.off.not ?_; omega) | (intro hs; have := hub551 _ hs; omega))
                    replace hB100 := hB100.ch hch602 (by first | (refine hO549.off.not ?_; omega) | (intro hs; have := hub551 _ hs; omega))
                    replace hO528 := hO528.ch hch602 (fun s hs hs2 => by first | (have h1 := hO528.off s hs; have h2 := hub551 s hs2; omega) | (have h1 := hub533 s hs; have h2 := hO549.off s hs2; omega) | (have h2 := hub551 s hs2; simp [obl, Value.ownBlock] at hs; omega) | (have h1 := hub533 s hs; simp [obl, Value.ownBlock] at hs2; omega))
                    replace hO596 := hO596.ch hch602 (fun s hs hs2 => by first | (have h1 := hO596.off s hs; have h2 := hub551 s hs2; omega) | (have h1 := hub598 s hs; have h2 := hO549.off s hs2; omega) | (have h2 := hub551 s hs2; simp [obl, Value.ownBlock] at hs; omega) | (have h1 := hub598 s hs; simp [obl, Value.ownBlock] at hs2; omega))
                    replace hc := (hO549.off.le (by omega)).step hc hch602
                    replace hr142 := (hO549.off.le (by omega)).step hr142 hch602
                    have hub606 := hO601.lt
                    obtain ⟨A607, c608, hv609, hcap610, hcap611⟩ := hO601.form; subst hv609
                    refine ⟨fun _ => hr142, ?_⟩
                    refine tw_one rfl (op_append Try.underlying23 T27 (fun _ => rfl) rfl (by decide) (fun _ => one_all rfl) (w1y rfl rfl rfl rfl) rfl rfl rfl rfl rfl hO601 (hO596.rs (fun _ => rfl)) (by unfold maxLen; first | omega | (simp; omega)) (by first | omega | (simp; omega)) (by omega) ?_)
                    rintro v612 w613 hO614 hch615 hs616
                    have hl617 : ((xs22 ++ ([⟨false, 1, 7⟩] : List Stp)) ++ ([⟨true, 1, 8⟩] : List Stp)).length = (xs22 ++ ([⟨false, 1, 7⟩] : List Stp)).length + 1 := by first | (have hl0 := (hO596.rs (fun _ => rfl)).len; omega) | (have hl0 := (hO596.rs (fun _ => rfl)).len; simp only [List.length_append, List.length_cons, List.length_nil] at hl0 ⊢; omega) | (simp; omega; done) | simp | rfl
                    clear hO596
                    have hsz618 := hch615.size
                    replace hOj := hOj.ch hch615 (fun s hs hs2 => by first | (have h1 := hOj.off s hs; have h2 := hub606 s hs2; omega) | (have h1 := hub119 s hs; have h2 := hO601.off s hs2; omega) | (have h2 := hub606 s hs2; simp [obl, Value.ownBlock] at hs; omega) | (have h1 := hub119 s hs; simp [obl, Value.ownBlock] at hs2; omega))
                    replace hB84 := hB84.ch hch615 (by first | (refine hO601.off.not ?_; omega) | (intro hs; have := hub606 _ hs; omega))
                    replace hB100 := hB100.ch hch615 (by first | (refine hO601.off.not ?_; omega) | (intro hs; have := hub606 _ hs; omega))
                    replace hO528 := hO528.ch hch615 (fun s hs hs2 => by first | (have h1 := hO528.off s hs; have h2 := hub606 s hs2; omega) | (have h1 := hub533 s hs; have h2 := hO601.off s hs2; omega) | (have h2 := hub606 s hs2; simp [obl, Value.ownBlock] at hs; omega) | (have h1 := hub533 s hs; simp [obl, Value.ownBlock] at hs2; omega))
                    replace hc := (hO601.off.le (by omega)).step hc hch615
                    replace hr142 := (hO601.off.le (by omega)).step hr142 hch615
                    have hub619 := hO614.lt
                    obtain ⟨A620, c621, hv622, hcap623, hcap624⟩ := hO614.form; subst hv622
                    refine ⟨fun _ => hr142, ?_⟩
                    refine tw_one rfl (op_call (w1y rfl rfl rfl rfl) rfl rfl (rc_call C8 rfl rfl) (StepsFit_i _ ((xs22 ++ ([⟨false, 1, 7⟩] : List Stp)) ++ ([⟨true, 1, 8⟩] : List Stp)).length _ ((xs22 ++ ([⟨false, 1, 7⟩] : List Stp)) ++ ([⟨true, 1, 8⟩] : List Stp)) _ (hO614.rs (fun _ => rfl)) (by omega)) ?_)
                    rintro _ w625 ⟨rfl, hch626⟩
                    have hsz627 := hch626.size
                    replace hOj := hOj.ch0 hch626
                    replace hB84 := hB84.ch0 hch626
                    replace hB100 := hB100.ch0 hch626
                    replace hO528 := hO528.ch0 hch626
                    replace hO614 := hO614.ch0 hch626
                    replace hc := hc.step0 hch626
                    replace hr142 := hr142.step0 hch626
                    refine ⟨fun _ => hr142, ?_⟩
                    refine tw_free rfl (w1y rfl rfl rfl rfl) rfl rfl (fun u hu => (pv_not rfl rfl : PV _ _ _ _) u) ?_
                    refine tw_free rfl (w0 rfl) rfl rfl (fun u hu => (pv_pickT (v := (.bool (!(dec (FitsOK ((xs22 ++ ([⟨false, 1, 7⟩] : List Stp)) ++ ([⟨true, 1, 8⟩] : List Stp))))))) rfl rfl rfl : PV _ _ _ _) u) ?_
                    refine tw_free rfl (w0 rfl) rfl rfl (fun u hu => (pv_assign (v := (.bool (!(dec (FitsOK ((xs22 ++ ([⟨false, 1, 7⟩] : List Stp)) ++ ([⟨true, 1, 8⟩] : List Stp))))))) rfl rfl : PV _ _ _ _) u) ?_
                    try clear hB100_r
                    try clear hB84_r
                    try clear hOj_r
                    refine tw_done (hK141 _ _ ?_)
                    refine hK136 _ _ ?_
                    refine cw_ret ?_
                    refine fin1 rfl ?_
                    first
                      | exact ⟨rfl, hc⟩
                      | exact absurd (put_read (‹FitsOK xs22›) (by omega) (‹StepsOK _›)).1 (by assumption)
                      | exact ⟨congrArg Value.bool (by rw [dec_no (put_read (‹FitsOK xs22›) (by omega) (‹StepsOK _›)).2]; rfl), hc⟩
                · -- first 12
                  refine  (op_bslice [(.agg #[(.bool true), (.int .i64 1), (.int .i64 8)])] Try.underlying23 T27 (w1y rfl rfl rfl rfl) rfl rfl rfl rfl rfl (by simp [Value.cells]) (by decide) ?_)
                  intro g629 w628 hg632 hg633 hK631 hch630
                  have hO634 : Own encP 3 w628 w539.heap.size 27 (.slice (some ⟨g629, 0, none⟩) 1 1) ([⟨true, 1, 8⟩] : List Stp) := Blk.own (xs := ([⟨true, 1, 8⟩] : List Stp)) hK631 (by omega) rfl (by decide) rfl
                  have hsz635 := hch630.size
                  replace hOj := hOj.ch0 hch630
                  replace hB84 := hB84.ch0 hch630
                  replace hB100 := hB100.ch0 hch630
                  replace hO528 := hO528.ch0 hch630
                  replace hc := hc.step0 hch630
                  replace hr142 := hr142.step0 hch630
                  have hub636 := hO634.lt
                  refine ⟨fun _ => hr142, ?_⟩
                  refine tw_one rfl (op_bslice [] Try.underlying23 T27 (w1y rfl rfl rfl rfl) rfl rfl rfl rfl rfl (by simp [Value.cells]) (by decide) ?_)
                  intro g638 w637 hg641 hg642 hK640 hch639
                  have hO643 : Own encP 3 w637 w628.heap.size 27 (.slice (some ⟨g638, 0, none⟩) 0 0) ([] : List Stp) := Blk.own (xs := ([] : List Stp)) hK640 (by omega) rfl (by decide) rfl
                  have hsz644 := hch639.size
                  replace hOj := hOj.ch0 hch639
                  replace hB84 := hB84.ch0 hch639
                  replace hB100 := hB100.ch0 hch639
                  replace hO528 := hO528.ch0 hch639
                  replace hO634 := hO634.ch0 hch639
                  replace hc := hc.step0 hch639
                  replace hr142 := hr142.step0 hch639
                  have hub645 := hO643.lt
                  refine ⟨fun _ => hr142, ?_⟩
                  refine tw_one rfl (op_append Try.underlying23 T27 (fun _ => rfl) rfl (by decide) (fun _ => one_all rfl) (w1y rfl rfl rfl rfl) rfl rfl rfl rfl rfl hO643 (hOj.rs (fun _ => rfl)) (by unfold maxLen; first | omega | (simp; omega)) (by first | omega | (simp; omega)) (by omega) ?_)
                  rintro v646 w647 hO648 hch649 hs650
                  replace hO648 : Own encP 3 w647 w628.heap.size 27 v646 (xs22 ++ ([⟨false, 1, 7⟩] : List Stp)) := hO648
                  have hl651 : (xs22 ++ ([⟨false, 1, 7⟩] : List Stp)).length = 0 + (xs22 ++ ([⟨false, 1, 7⟩] : List Stp)).length := by first | (have hl0 := (hOj.rs (fun _ => rfl)).len; omega) | (have hl0 := (hOj.rs (fun _ => rfl)).len; simp only [List.length_append, List.length_cons, List.length_nil] at hl0 ⊢; omega) | (simp; omega; done) | simp | rfl
                  have hsz652 := hch649.size
                  replace hOj := hOj.ch hch649 (fun s hs hs2 => by first | (have h1 := hOj.off s hs; have h2 := hub645 s hs2; omega) | (have h1 := hub119 s hs; have h2 := hO643.off s hs2; omega) | (have h2 := hub645 s hs2; simp [obl, Value.ownBlock] at hs; omega) | (have h1 := hub119 s hs; simp [obl, Value.ownBlock] at hs2; omega))
                  replace hB84 := hB84.ch hch649 (by first | (refine hO643.off.not ?_; omega) | (intro hs; have := hub645 _ hs; omega))
                  replace hB100 := hB100.ch hch649 (by first | (refine hO643.off.not ?_; omega) | (intro hs; have := hub645 _ hs; omega))
                  replace hO528 := hO528.ch hch649 (fun s hs hs2 => by first | (have h1 := hO528.off s hs; have h2 := hub645 s hs2; omega) | (have h1 := hub533 s hs; have h2 := hO643.off s hs2; omega) | (have h2 := hub645 s hs2; simp [obl, Value.ownBlock] at hs; omega) | (have h1 := hub533 s hs; simp [obl, Value.ownBlock] at hs2; omega))
                  replace hO634 := hO634.ch hch649 (fun s hs hs2 => by first | (have h1 := hO634.off s hs; have h2 := hub645 s hs2; omega) | (have h1 := hub636 s hs; have h2 := hO643.off s hs2; omega) | (have h2 := hub645 s hs2; simp [obl, Value.ownBlock] at hs; omega) | (have h1 := hub636 s hs; simp [obl, Value.ownBlock] at hs2; omega))
                  replace hc := (hO643.off.le (by omega)).step hc hch649
                  replace hr142 := (hO643.off.le (by omega)).step hr142 hch649
                  have hub653 := hO648.lt
                  obtain ⟨A654, c655, hv656, hcap657, hcap658⟩ := hO648.form; subst hv656
                  refine ⟨fun _ => hr142, ?_⟩
                  refine tw_one rfl (op_append Try.underlying23 T27 (fun _ => rfl) rfl (by decide) (fun _ => one_all rfl) (w1y rfl rfl rfl rfl) rfl rfl rfl rfl rfl hO648 (hO634.rs (fun _ => rfl)) (by unfold maxLen; first | omega | (simp; omega)) (by first | omega | (simp; omega)) (by omega) ?_)
                  rintro v659 w660 hO661 hch662 hs663
                  have hl664 : ((xs22 ++ ([⟨false, 1, 7⟩] : List Stp)) ++ ([⟨true, 1, 8⟩] : List Stp)).length = (xs22 ++ ([⟨false, 1, 7⟩] : List Stp)).length + 1 := by first | (have hl0 := (hO634.rs (fun _ => rfl)).len; omega) | (have hl0 := (hO634.rs (fun _ => rfl)).len; simp only [List.length_append, List.length_cons, List.length_nil] at hl0 ⊢; omega) | (simp; omega; done) | simp | rfl
                  clear hO634
                  have hsz665 := hch662.size
                  replace hOj := hOj.ch hch662 (fun s hs hs2 => by first | (have h1 := hOj.off s hs; have h2 := hub653 s hs2; omega) | (have h1 := hub119 s hs; have h2 := hO648.off s hs2; omega) | (have h2 := hub653 s hs2; simp [obl, Value.ownBlock] at hs; omega) | (have h1 := hub119 s hs; simp [obl, Value.ownBlock] at hs2; omega))
                  replace hB84 := hB84.ch hch662 (by first | (refine hO648.off.not ?_; omega) | (intro hs; have := hub653 _ hs; omega))
                  replace hB100 := hB100.ch hch662 (by first | (refine hO648.off.not ?_; omega) | (intro hs; have := hub653 _ hs; omega))
                  replace hO528 := hO528.ch hch662 (fun s hs hs2 => by first | (have h1 := hO528.off s hs; have h2 := hub653 s hs2; omega) | (have h1 := hub533 s hs; have h2 := hO648.off s hs2; omega) | (have h2 := hub653 s hs2; simp [obl, Value.ownBlock] at hs; omega) | (have h1 := hub533 s hs; simp [obl, Value.ownBlock] at hs2; omega))
                  replace hc := (hO648.off.le (by omega)).step hc hch662
                  replace hr142 := (hO648.off.le (by omega)).step hr142 hch662
                  have hub666 := hO661.lt
                  obtain ⟨A667, c668, hv669, hcap670, hcap671⟩ := hO661.form; subst hv669
                  refine ⟨fun _ => hr142, ?_⟩
                  refine tw_one rfl (op_call (w1y rfl rfl rfl rfl) rfl rfl (rc_call C8 rfl rfl) (StepsFit_i _ ((xs22 ++ ([⟨false, 1, 7⟩] : List Stp)) ++ ([⟨true, 1, 8⟩] : List Stp)).length _ ((xs22 ++ ([⟨false, 1, 7⟩] : List Stp)) ++ ([⟨true, 1, 8⟩] : List Stp)) _ (hO661.rs (fun _ => rfl)) (by omega)) ?_)
                  rintro _ w672 ⟨rfl, hch673⟩
                  have hsz674 := hch673.size
                  replace hOj := hOj.ch0 hch673
                  replace hB84 := hB84.ch0 hch673
                  replace hB100 := hB100.ch0 hch673
                  replace hO528 := hO528.ch0 hch673
                  replace hO661 := hO661.ch0 hch673
                  replace hc := hc.step0 hch673
                  replace hr142 := hr142.step0 hch673
                  refine ⟨fun _ => hr142, ?_⟩
                  refine tw_free rfl (w1y rfl rfl rfl rfl) rfl rfl (fun u hu => (pv_not rfl rfl : PV _ _ _ _) u) ?_
                  refine tw_free rfl (w0 rfl) rfl rfl (fun u hu => (pv_pickT (v := (.bool (!(dec (FitsOK ((xs22 ++ ([⟨false, 1, 7⟩] : List Stp)) ++ ([⟨true, 1, 8⟩] : List Stp))))))) rfl rfl rfl : PV _ _ _ _) u) ?_
                  refine tw_free rfl (w0 rfl) rfl rfl (fun u hu => (pv_assign (v := (.bool (!(dec (FitsOK ((xs22 ++ ([⟨false, 1, 7⟩] : List Stp)) ++ ([⟨true, 1, 8⟩] : List Stp))))))) rfl rfl : PV _ _ _ _) u) ?_
                  try clear hB100_r
                  try clear hB84_r
                  try clear hOj_r
                  refine tw_done (hK141 _ _ ?_)
                  refine hK136 _ _ ?_
                  refine cw_ret ?_
                  refine fin1 rfl ?_
                  first
                    | exact ⟨rfl, hc⟩
                    | exact absurd (put_read (‹FitsOK xs22›) (by omega) (‹StepsOK _›)).1 (by assumption)
                    | exact ⟨congrArg Value.bool (by rw [dec_no (put_read (‹FitsOK xs22›) (by omega) (‹StepsOK _›)).2]; rfl), hc⟩
              · -- no
                replace hb542 := dec_f hb542
                refine tw_pass rfl (w1n1 rfl rfl rfl rfl) rfl rfl ?_
                refine tw_pass rfl (w1n1 rfl rfl rfl rfl) rfl rfl ?_
                refine tw_two rfl rfl ?_ ?_
                · -- first 8
                  refine  (op_pass (w1n1 rfl rfl rfl rfl) rfl rfl ?_)
                  refine ⟨fun _ => hr142, ?_⟩
                  refine tw_two rfl rfl ?_ ?_
                  · -- first 10
                    refine  (op_pass (w1n1 rfl rfl rfl rfl) rfl rfl ?_)
                    refine ⟨fun _ => hr142, ?_⟩
                    refine tw_one rfl (op_pass (w1n1 rfl rfl rfl rfl) rfl rfl ?_)
                    refine ⟨fun _ => hr142, ?_⟩
                    refine tw_one rfl (op_pass (w1n1 rfl rfl rfl rfl) rfl rfl ?_)
                    refine ⟨fun _ => hr142, ?_⟩
                    refine tw_one rfl (op_pass (w1n1 rfl rfl rfl rfl) rfl rfl ?_)
                    refine ⟨fun _ => hr142, ?_⟩
                    refine tw_pass rfl (w1n1 rfl rfl rfl rfl) rfl rfl ?_
                    refine tw_free rfl (w0 rfl) rfl rfl (fun u hu => (pv_pickF (v := (.bool false)) rfl rfl rfl : PV _ _ _ _) u) ?_
                    refine tw_free rfl (w0 rfl) rfl rfl (fun u hu => (pv_assign (v := (.bool false)) rfl rfl : PV _ _ _ _) u) ?_
                    try clear hB100_r
                    try clear hB84_r
                    try clear hOj_r
                    refine tw_done (hK141 _ _ ?_)
                    refine hK136 _ _ ?_
                    refine cw_ret ?_
                    refine fin1 rfl ?_
                    first
                      | exact ⟨rfl, hc⟩
                      | exact absurd (put_read (‹FitsOK xs22›) (by omega) (‹StepsOK _›)).1 (by assumption)
                      | exact ⟨congrArg Value.bool (by rw [dec_no (put_read (‹FitsOK xs22›) (by omega) (‹StepsOK _›)).2]; rfl), hc⟩
                  · -- first 12
                    refine  (op_pass (w1n1 rfl rfl rfl rfl) rfl rfl ?_)
                    refine ⟨fun _ => hr142, ?_⟩
                    refine tw_one rfl (op_pass (w1n1 rfl rfl rfl rfl) rfl rfl ?_)
                    refine ⟨fun _ => hr142, ?_⟩
                    refine tw_one rfl (op_pass (w1n1 rfl rfl rfl rfl) rfl rfl ?_)
                    refine ⟨fun _ => hr142, ?_⟩
                    refine tw_one rfl (op_pass (w1n1 rfl rfl rfl rfl) rfl rfl ?_)
                    refine ⟨fun _ => hr142, ?_⟩
                    refine tw_pass rfl (w1n1 rfl rfl rfl rfl) rfl rfl ?_
                    refine tw_free rfl (w0 rfl) rfl rfl (fun u hu => (pv_pickF (v := (.bool false)) rfl rfl rfl : PV _ _ _ _) u) ?_
                    refine tw_free rfl (w0 rfl) rfl rfl (fun u hu => (pv_assign (v := (.bool false)) rfl rfl : PV _ _ _ _) u) ?_
                    try clear hB100_r
                    try clear hB84_r
                    try clear hOj_r
                    refine tw_done (hK141 _ _ ?_)
                    refine hK136 _ _ ?_
                    refine cw_ret ?_
                    refine fin1 rfl ?_
                    first
                      | exact ⟨rfl, hc⟩
                      | exact absurd (put_read (‹FitsOK xs22›) (by omega) (‹StepsOK _›)).1 (by assumption)
                      | exact ⟨congrArg Value.bool (by rw [dec_no (put_read (‹FitsOK xs22›) (by omega) (‹StepsOK _›)).2]; rfl), hc⟩
                · -- first 12
                  refine  (op_pass (w1n1 rfl rfl rfl rfl) rfl rfl ?_)
                  refine ⟨fun _ => hr142, ?_⟩
                  refine tw_one rfl (op_pass (w1n1 rfl rfl rfl rfl) rfl rfl ?_)
                  refine ⟨fun _ => hr142, ?_⟩
                  refine tw_one rfl (op_pass (w1n1 rfl rfl rfl rfl) rfl rfl ?_)
                  refine ⟨fun _ => hr142, ?_⟩
                  refine tw_one rfl (op_pass (w1n1 rfl rfl rfl rfl) rfl rfl ?_)
                  refine ⟨fun _ => hr142, ?_⟩
                  refine tw_one rfl (op_pass (w1n1 rfl rfl rfl rfl) rfl rfl ?_)
                  refine ⟨fun _ => hr142, ?_⟩
                  refine tw_pass rfl (w1n1 rfl rfl rfl rfl) rfl rfl ?_
                  refine tw_free rfl (w0 rfl) rfl rfl (fun u hu => (pv_pickF (v := (.bool false)) rfl rfl rfl : PV _ _ _ _) u) ?_
                  refine tw_free rfl (w0 rfl) rfl rfl (fun u hu => (pv_assign (v := (.bool false)) rfl rfl : PV _ _ _ _) u) ?_
                  try clear hB100_r
                  try clear hB84_r
                  try clear hOj_r
                  refine tw_done (hK141 _ _ ?_)
                  refine hK136 _ _ ?_
                  refine cw_ret ?_
                  refine fin1 rfl ?_
                  first
                    | exact ⟨rfl, hc⟩
                    | exact absurd (put_read (‹FitsOK xs22›) (by omega) (‹StepsOK _›)).1 (by assumption)
                    | exact ⟨congrArg Value.bool (by rw [dec_no (put_read (‹FitsOK xs22›) (by omega) (‹StepsOK _›)).2]; rfl), hc⟩
        obtain ⟨w111, hw_, hch112, hsz113⟩ : ∃ w1 : World, w1 = w105.drew ∧ Ch [] w105 w1 ∧ w1.heap.size = w105.heap.size := ⟨_, rfl, (Ch.refl _ _).drew, rfl⟩
        rw [← hw_]; clear hw_
        have hr116 : Ch [] w105 w111 := hch112.sub (fun s hs => by cases hs)
        have hR0_r := hR0
        have hO25_r := hO25
        have hB68_r := hB68
        have hB84_r := hB84
        have hB100_r := hB100
        have hsz675 := hch112.size
        replace hR0 := hR0.ch0 hch112
        replace hO25 := hO25.ch0 hch112
        replace hB68 := hB68.ch0 hch112
        replace hB84 := hB84.ch0 hch112
        replace hB100 := hB100.ch0 hch112
        replace hc := hc.step0 hch112
        refine tw_free rfl (w0 rfl) rfl rfl (fun u hu => (pv_move (v := (.slice A23 xs22.length c24)) rfl rfl : PV _ _ _ _) u) ?_
        refine tw_free rfl (w0 rfl) rfl rfl (fun u hu => lv_loadN T27 rfl rfl rfl (fun j v hv => (hB68_r.ch hu (by simp)).cellA hv)) ?_
        refine tw_two rfl rfl ?_ ?_
        · -- first 0
          refine  (op_bslice [] Try.underlying23 T27 (w0 rfl) rfl rfl rfl rfl rfl (by simp [Value.cells]) (by decide) ?_)
          intro g677 w676 hg680 hg681 hK679 hch678
          have hO682 : Own encP 3 w676 w111.heap.size 27 (.slice (some ⟨g677, 0, none⟩) 0 0) ([] : List Stp) := Blk.own (xs := ([] : List Stp)) hK679 (by omega) rfl (by decide) rfl
          have hsz683 := hch678.size
          replace hR0 := hR0.ch0 hch678
          replace hO25 := hO25.ch0 hch678
          replace hB68 := hB68.ch0 hch678
          replace hB84 := hB84.ch0 hch678
          replace hB100 := hB100.ch0 hch678
          replace hc := hc.step0 hch678
          replace hr116 := hr116.step0 hch678
          have hub684 := hO682.lt
          refine ⟨fun _ => hr116, ?_⟩
          refine tw_two rfl rfl ?_ ?_
          · -- first 2
            refine  (op_append Try.underlying23 T27 (fun _ => rfl) rfl (by decide) (fun _ => one_all rfl) (w0 rfl) rfl rfl rfl rfl rfl hO682 (hO25.rs (fun _ => rfl)) (by unfold maxLen; first | omega | (simp; omega)) (by first | omega | (simp; omega)) (by omega) ?_)
            rintro v685 w686 hO687 hch688 hs689
            replace hO687 : Own encP 3 w686 w111.heap.size 27 v685 xs22 := hO687
            have hl690 : xs22.length = 0 + xs22.length := by first | (have hl0 := (hO25.rs (fun _ => rfl)).len; omega) | (have hl0 := (hO25.rs (fun _ => rfl)).len; simp only [List.length_append, List.length_cons, List.length_nil] at hl0 ⊢; omega) | (simp; omega; done) | simp | rfl
            have hsz691 := hch688.size
            replace hR0 := hR0.ch hch688 (hO682.off.le (by omega))
            replace hO25 := hO25.ch hch688 (fun s hs hs2 => by first | (have h1 := hO25.off s hs; have h2 := hub684 s hs2; omega) | (have h1 := hub26 s hs; have h2 := hO682.off s hs2; omega) | (have h2 := hub684 s hs2; simp [obl, Value.ownBlock] at hs; omega) | (have h1 := hub26 s hs; simp [obl, Value.ownBlock] at hs2; omega))
            replace hB68 := hB68.ch hch688 (by first | (refine hO682.off.not ?_; omega) | (intro hs; have := hub684 _ hs; omega))
            replace hB84 := hB84.ch hch688 (by first | (refine hO682.off.not ?_; omega) | (intro hs; have := hub684 _ hs; omega))
            replace hB100 := hB100.ch hch688 (by first | (refine hO682.off.not ?_; omega) | (intro hs; have := hub684 _ hs; omega))
            replace hc := (hO682.off.le (by omega)).step hc hch688
            replace hr116 := (hO682.off.le (by omega)).step hr116 hch688
            have hub692 := hO687.lt
            obtain ⟨A693, c694, hv695, hcap696, hcap697⟩ := hO687.form; subst hv695
            refine ⟨fun _ => hr116, ?_⟩
            refine tw_one rfl (op_bslice [(.agg #[(.bool false), (.int .i64 1), (.int .i64 7)])] Try.underlying23 T27 (w0 rfl) rfl rfl rfl rfl rfl (by simp [Value.cells]) (by decide) ?_)
            intro g699 w698 hg702 hg703 hK701 hch700
            have hO704 : Own encP 3 w698 w686.heap.size 27 (.slice (some ⟨g699, 0, none⟩) 1 1) ([⟨false, 1, 7⟩] : List Stp) := Blk.own (xs := ([⟨false, 1, 7⟩] : List Stp)) hK701 (by omega) rfl (by decide) rfl
            have hsz705 := hch700.size
            replace hR0 := hR0.ch0 hch700
            replace hO25 := hO25.ch0 hch700
            replace hB68 := hB68.ch0 hch700
            replace hB84 := hB84.ch0 hch700
            replace hB100 := hB100.ch0 hch700
            replace hO687 := hO687.ch0 hch700
            replace hc := hc.step0 hch700
            replace hr116 := hr116.step0 hch700
            have hub706 := hO704.lt
            refine ⟨fun _ => hr116, ?_⟩
            refine tw_one rfl (op_append Try.underlying23 T27 (fun _ => rfl) rfl (by decide) (fun _ => one_all rfl) (w0 rfl) rfl rfl rfl rfl rfl hO687 (hO704.rs (fun _ => rfl)) (by unfold maxLen; first | omega | (simp; omega)) (by first | omega | (simp; omega)) (by omega) ?_)
            rintro v707 w708 hO709 hch710 hs711
            have hl712 : (xs22 ++ ([⟨false, 1, 7⟩] : List Stp)).length = xs22.length + 1 := by first | (have hl0 := (hO704.rs (fun _ => rfl)).len; omega) | (have hl0 := (hO704.rs (fun _ => rfl)).len; simp only [List.length_append, List.length_cons, List.length_nil] at hl0 ⊢; omega) | (simp; omega; done) | simp | rfl
            clear hO704
            have hsz713 := hch710.size
            replace hR0 := hR0.ch hch710 (hO687.off.le (by omega))
            replace hO25 := hO25.ch hch710 (fun s hs hs2 => by first | (have h1 := hO25.off s hs; have h2 := hub692 s hs2; omega) | (have h1 := hub26 s hs; have h2 := hO687.off s hs2; omega) | (have h2 := hub692 s hs2; simp [obl, Value.ownBlock] at hs; omega) | (have h1 := hub26 s hs; simp [obl, Value.ownBlock] at hs2; omega))
            replace hB68 := hB68.ch hch710 (by first | (refine hO687.off.not ?_; omega) | (intro hs; have := hub692 _ hs; omega))
            replace hB84 := hB84.ch hch710 (by first | (refine hO687.off.not ?_; omega) | (intro hs; have := hub692 _ hs; omega))
            replace hB100 := hB100.ch hch710 (by first | (refine hO687.off.not ?_; omega) | (intro hs; have := hub692 _ hs; omega))
            replace hc := (hO687.off.le (by omega)).step hc hch710
            replace hr116 := (hO687.off.le (by omega)).step hr116 hch710
            have hub714 := hO709.lt
            obtain ⟨A715, c716, hv717, hcap718, hcap719⟩ := hO709.form; subst hv717
            refine ⟨fun _ => hr116, ?_⟩
            refine tw_free rfl (w0 rfl) rfl rfl (fun u hu => (pv_assign (v := (.slice A715 (xs22 ++ ([⟨false, 1, 7⟩] : List Stp)).length c716)) rfl rfl : PV _ _ _ _) u) ?_
            try clear hB100_r
            try clear hB68_r
            try clear hB84_r
            try clear hO25_r
            try clear hR0_r
            refine tw_done ?_
            exact join_as (l := [(7, (.pointer (some (⟨g82, 0, none⟩)))), (8, (.pointer (some (⟨g98, 0, none⟩)))), (9, (.slice A715 (xs22 ++ ([⟨false, 1, 7⟩] : List Stp)).length c716))]) ⟨rfl, rfl, rfl, trivial⟩ (hJn117 A715 c716 _ _ (hO709.less (by omega)) hB84 hB100 hc (by omega))
          · -- first 4
            refine  (op_bslice [(.agg #[(.bool false), (.int .i64 1), (.int .i64 7)])] Try.underlying23 T27 (w0 rfl) rfl rfl rfl rfl rfl (by simp [Value.cells]) (by decide) ?_)
            intro g721 w720 hg724 hg725 hK723 hch722
            have hO726 : Own encP 3 w720 w676.heap.size 27 (.slice (some ⟨g721, 0, none⟩) 1 1) ([⟨false, 1, 7⟩] : List Stp) := Blk.own (xs := ([⟨false, 1, 7⟩] : List Stp)) hK723 (by omega) rfl (by decide) rfl
            have hsz727 := hch722.size
            replace hR0 := hR0.ch0 hch722
            replace hO25 := hO25.ch0 hch722
            replace hB68 := hB68.ch0 hch722
            replace hB84 := hB84.ch0 hch722
            replace hB100 := hB100.ch0 hch722
            replace hO682 := hO682.ch0 hch722
            replace hc := hc.step0 hch722
            replace hr116 := hr116.step0 hch722
            have hub728 := hO726.lt
            refine ⟨fun _ => hr116, ?_⟩
            refine tw_one rfl (op_append Try.underlying23 T27 (fun _ => rfl) rfl (by decide) (fun _ => one_all rfl) (w0 rfl) rfl rfl rfl rfl rfl hO682 (hO25.rs (fun _ => rfl)) (by unfold maxLen; first | omega | (simp; omega)) (by first | omega | (simp; omega)) (by omega) ?_)
            rintro v729 w730 hO731 hch732 hs733
            replace hO731 : Own encP 3 w730 w111.heap.size 27 v729 xs22 := hO731
            have hl734 : xs22.length = 0 + xs22.length := by first | (have hl0 := (hO25.rs (fun _ => rfl)).len; omega) | (have hl0 := (hO25.rs (fun _ => rfl)).len; simp only [List.length_append, List.length_cons, List.length_nil] at hl0 ⊢; omega) | (simp; omega; done) | simp | rfl
            have hsz735 := hch732.size
            replace hR0 := hR0.ch hch732 (hO682.off.le (by omega))
            replace hO25 := hO25.ch hch732 (fun s hs hs2 => by first | (have h1 := hO25.off s hs; have h2 := hub684 s hs2; omega) | (have h1 := hub26 s hs; have h2 := hO682.off s hs2; omega) | (have h2 := hub684 s hs2; simp [obl, Value.ownBlock] at hs; omega) | (have h1 := hub26 s hs; simp [obl, Value.ownBlock] at hs2; omega))
            replace hB68 := hB68.ch hch732 (by first | (refine hO682.off.not ?_; omega) | (intro hs; have := hub684 _ hs; omega))
            replace hB84 := hB84.ch hch732 (by first | (refine hO682.off.not ?_; omega) | (intro hs; have := hub684 _ hs; omega))
            replace hB100 := hB100.ch hch732 (by first | (refine hO682.off.not ?_; omega) | (intro hs; have := hub684 _ hs; omega))
            replace hO726 := hO726.ch hch732 (fun s hs hs2 => by first | (have h1 := hO726.off s hs; have h2 := hub684 s hs2; omega) | (have h1 := hub728 s hs; have h2 := hO682.off s hs2; omega) | (have h2 := hub684 s hs2; simp [obl, Value.ownBlock] at hs; omega) | (have h1 := hub728 s hs; simp [obl, Value.ownBlock] at hs2; omega))
            replace hc := (hO682.off.le (by omega)).step hc hch732
            replace hr116 := (hO682.off.le (by omega)).step hr116 hch732
            have hub736 := hO731.lt
            obtain ⟨A737, c738, hv739, hcap740, hcap741⟩ := hO731.form; subst hv739
            refine ⟨fun _ => hr116, ?_⟩
            refine tw_one rfl (op_append Try.underlying23 T27 (fun _ => rfl) rfl (by decide) (fun _ => one_all rfl) (w0 rfl) rfl rfl rfl rfl rfl hO731 (hO726.rs (fun _ => rfl)) (by unfold maxLen; first | omega | (simp; omega)) (by first | omega | (simp; omega)) (by omega) ?_)
            rintro v742 w743 hO744 hch745 hs746
            have hl747 : (xs22 ++ ([⟨false, 1, 7⟩] : List Stp)).length = xs22.length + 1 := by first | (have hl0 := (hO726.rs (fun _ => rfl)).len; omega) | (have hl0 := (hO726.rs (fun _ => rfl)).len; simp only [List.length_append, List.length_cons, List.length_nil] at hl0 ⊢; omega) | (simp; omega; done) | simp | rfl
            clear hO726
            have hsz748 := hch745.size
            replace hR0 := hR0.ch hch745 (hO731.off.le (by omega))
            replace hO25 := hO25.ch hch745 (fun s hs hs2 => by first | (have h1 := hO25.off s hs; have h2 := hub736 s hs2; omega) | (have h1 := hub26 s hs; have h2 := hO731.off s hs2; omega) | (have h2 := hub736 s hs2; simp [obl, Value.ownBlock] at hs; omega) | (have h1 := hub26 s hs; simp [obl, Value.ownBlock] at hs2; omega))
            replace hB68 := hB68.ch hch745 (by first | (refine hO731.off.not ?_; omega) | (intro hs; have := hub736 _ hs; omega))
            replace hB84 := hB84.ch hch745 (by first | (refine hO731.off.not ?_; omega) | (intro hs; have := hub736 _ hs; omega))
            replace hB100 := hB100.ch hch745 (by first | (refine hO731.off.not ?_; omega) | (intro hs; have := hub736 _ hs; omega))
            replace hc := (hO731.off.le (by omega)).step hc hch745
            replace hr116 := (hO731.off.le (by omega)).step hr116 hch745
            have hub749 := hO744.lt
            obtain ⟨A750, c751, hv752, hcap753, hcap754⟩ := hO744.form; subst hv752
            refine ⟨fun _ => hr116, ?_⟩
            refine tw_free rfl (w0 rfl) rfl rfl (fun u hu => (pv_assign (v := (.slice A750 (xs22 ++ ([⟨false, 1, 7⟩] : List Stp)).length c751)) rfl rfl : PV _ _ _ _) u) ?_
            try clear hB100_r
            try clear hB68_r
            try clear hB84_r
            try clear hO25_r
            try clear hR0_r
            refine tw_done ?_
            exact join_as (l := [(7, (.pointer (some (⟨g82, 0, none⟩)))), (8, (.pointer (some (⟨g98, 0, none⟩)))), (9, (.slice A750 (xs22 ++ ([⟨false, 1, 7⟩] : List Stp)).length c751))]) ⟨rfl, rfl, rfl, trivial⟩ (hJn117 A750 c751 _ _ (hO744.less (by omega)) hB84 hB100 hc (by omega))
        · -- first 4
          refine  (op_bslice [(.agg #[(.bool false), (.int .i64 1), (.int .i64 7)])] Try.underlying23 T27 (w0 rfl) rfl rfl rfl rfl rfl (by simp [Value.cells]) (by decide) ?_)
          intro g756 w755 hg759 hg760 hK758 hch757
          have hO761 : Own encP 3 w755 w111.heap.size 27 (.slice (some ⟨g756, 0, none⟩) 1 1) ([⟨false, 1, 7⟩] : List Stp) := Blk.own (xs := ([⟨false, 1, 7⟩] : List Stp)) hK758 (by omega) rfl (by decide) rfl
          have hsz762 := hch757.size
          replace hR0 := hR0.ch0 hch757
          replace hO25 := hO25.ch0 hch757
          replace hB68 := hB68.ch0 hch757
          replace hB84 := hB84.ch0 hch757
          replace hB100 := hB100.ch0 hch757
          replace hc := hc.step0 hch757
          replace hr116 := hr116.step0 hch757
          have hub763 := hO761.lt
          refine ⟨fun _ => hr116, ?_⟩
          refine tw_one rfl (op_bslice [] Try.underlying23 T27 (w0 rfl) rfl rfl rfl rfl rfl (by simp [Value.cells]) (by decide) ?_)
          intro g765 w764 hg768 hg769 hK767 hch766
          have hO770 : Own encP 3 w764 w755.heap.size 27 (.slice (some ⟨g765, 0, none⟩) 0 0) ([] : List Stp) := Blk.own (xs := ([] : List Stp)) hK767 (by omega) rfl (by decide) rfl
          have hsz771 := hch766.size
          replace hR0 := hR0.ch0 hch766
          replace hO25 := hO25.ch0 hch766
          replace hB68 := hB68.ch0 hch766
          replace hB84 := hB84.ch0 hch766
          replace hB100 := hB100.ch0 hch766
          replace hO761 := hO761.ch0 hch766
          replace hc := hc.step0 hch766
          replace hr116 := hr116.step0 hch766
          have hub772 := hO770.lt
          refine ⟨fun _ => hr116, ?_⟩
          refine tw_one rfl (op_append Try.underlying23 T27 (fun _ => rfl) rfl (by decide) (fun _ => one_all rfl) (w0 rfl) rfl rfl rfl rfl rfl hO770 (hO25.rs (fun _ => rfl)) (by unfold maxLen; first | omega | (simp; omega)) (by first | omega | (simp; omega)) (by omega) ?_)
          rintro v773 w774 hO775 hch776 hs777
          replace hO775 : Own encP 3 w774 w755.heap.size 27 v773 xs22 := hO775
          have hl778 : xs22.length = 0 + xs22.length := by first | (have hl0 := (hO25.rs (fun _ => rfl)).len; omega) | (have hl0 := (hO25.rs (fun _ => rfl)).len; simp only [List.length_append, List.length_cons, List.length_nil] at hl0 ⊢; omega) | (simp; omega; done) | simp | rfl
          have hsz779 := hch776.size
          replace hR0 := hR0.ch hch776 (hO770.off.le (by omega))
          replace hO25 := hO25.ch hch776 (fun s hs hs2 => by first | (have h1 := hO25.off s hs; have h2 := hub772 s hs2; omega) | (have h1 := hub26 s hs; have h2 := hO770.off s hs2; omega) | (have h2 := hub772 s hs2; simp [obl, Value.ownBlock] at hs; omega) | (have h1 := hub26 s hs; simp [obl, Value.ownBlock] at hs2; omega))
          replace hB68 := hB68.ch hch776 (by first | (refine hO770.off.not ?_; omega) | (intro hs; have := hub772 _ hs; omega))
          replace hB84 := hB84.ch hch776 (by first | (refine hO770.off.not ?_; omega) | (intro hs; have := hub772 _ hs; omega))
          replace hB100 := hB100.ch hch776 (by first | (refine hO770.off.not ?_; omega) | (intro hs; have := hub772 _ hs; omega))
          replace hO761 := hO761.ch hch776 (fun s hs hs2 => by first | (have h1 := hO761.off s hs; have h2 := hub772 s hs2; omega) | (have h1 := hub763 s hs; have h2 := hO770.off s hs2; omega) | (have h2 := hub772 s hs2; simp [obl, Value.ownBlock] at hs; omega) | (have h1 := hub763 s hs; simp [obl, Value.ownBlock] at hs2; omega))
          replace hc := (hO770.off.le (by omega)).step hc hch776
          replace hr116 := (hO770.off.le (by omega)).step hr116 hch776
          have hub780 := hO775.lt
          obtain ⟨A781, c782, hv783, hcap784, hcap785⟩ := hO775.form; subst hv783
          refine ⟨fun _ => hr116, ?_⟩
          refine tw_one rfl (op_append Try.underlying23 T27 (fun _ => rfl) rfl (by decide) (fun _ => one_all rfl) (w0 rfl) rfl rfl rfl rfl rfl hO775 (hO761.rs (fun _ => rfl)) (by unfold maxLen; first | omega | (simp; omega)) (by first | omega | (simp; omega)) (by omega) ?_)
          rintro v786 w787 hO788 hch789 hs790
          have hl791 : (xs22 ++ ([⟨false, 1, 7⟩] : List Stp)).length = xs22.length + 1 := by first | (have hl0 := (hO761.rs (fun _ => rfl)).len; omega) | (have hl0 := (hO761.rs (fun _ => rfl)).len; simp only [List.length_append, List.length_cons, List.length_nil] at hl0 ⊢; omega) | (simp; omega; done) | simp | rfl
          clear hO761
          have hsz792 := hch789.size
          replace hR0 := hR0.ch hch789 (hO775.off.le (by omega))
          replace hO25 := hO25.ch hch789 (fun s hs hs2 => by first | (have h1 := hO25.off s hs; have h2 := hub780 s hs2; omega) | (have h1 := hub26 s hs; have h2 := hO775.off s hs2; omega) | (have h2 := hub780 s hs2; simp [obl, Value.ownBlock] at hs; omega) | (have h1 := hub26 s hs; simp [obl, Value.ownBlock] at hs2; omega))
          replace hB68 := hB68.ch hch789 (by first | (refine hO775.off.not ?_; omega) | (intro hs; have := hub780 _ hs; omega))
          replace hB84 := hB84.ch hch789 (by first | (refine hO775.off.not ?_; omega) | (intro hs; have := hub780 _ hs; omega))
          replace hB100 := hB100.ch hch789 (by first | (refine hO775.off.not ?_; omega) | (intro hs; have := hub780 _ hs; omega))
          replace hc := (hO775.off.le (by omega)).step hc hch789
          replace hr116 := (hO775.off.le (by omega)).step hr116 hch789
          have hub793 := hO788.lt
          obtain ⟨A794, c795, hv796, hcap797, hcap798⟩ := hO788.form; subst hv796
          refine ⟨fun _ => hr116, ?_⟩
          refine tw_free rfl (w0 rfl) rfl rfl (fun u hu => (pv_assign (v := (.slice A794 (xs22 ++ ([⟨false, 1, 7⟩] : List Stp)).length c795)) rfl rfl : PV _ _ _ _) u) ?_
          try clear hB100_r
          try clear hB68_r
          try clear hB84_r
          try clear hO25_r
          try clear hR0_r
          refine tw_done ?_
          exact join_as (l := [(7, (.pointer (some (⟨g82, 0, none⟩)))), (8, (.pointer (some (⟨g98, 0, none⟩)))), (9, (.slice A794 (xs22 ++ ([⟨false, 1, 7⟩] : List Stp)).length c795))]) ⟨rfl, rfl, rfl, trivial⟩ (hJn117 A794 c795 _ _ (hO788.less (by omega)) hB84 hB100 hc (by omega))
end Go.Proofs.Ytdnncgapbjnfoaa

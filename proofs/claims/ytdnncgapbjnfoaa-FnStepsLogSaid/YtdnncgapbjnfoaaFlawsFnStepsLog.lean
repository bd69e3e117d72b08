/-
  The walk of laws.FnStepsLog, written by program: each line names the law of one operation. Conditions: those of the theorem.
-/
import Derived.Test.YtdnncgapbjnfoaaProg
import Derived.Test.YtdnncgapbjnfoaaSteps
import Derived.Test.YtdnncgapbjnfoaaNode
import Derived.Test.YtdnncgapbjnfoaaArr
import Derived.Test.YtdnncgapbjnfoaaFspecDrawStepsLog
import Derived.Test.YtdnncgapbjnfoaaFimplStepsLog
import Derived.Test.YtdnncgapbjnfoaaFspecStepsLog
import Derived.Test.YtdnncgapbjnfoaaFlawssameLog
import Derived.Test.YtdnncgapbjnfoaaFimplLogValid
import Derived.Test.YtdnncgapbjnfoaaFspecStepsValid
import Derived.KernelRfl
namespace Go.Proofs.Ytdnncgapbjnfoaa
open Go Go.RowKit
set_option linter.unusedVariables false
set_option linter.unusedSimpArgs false
namespace FnStepsLog_okF
theorem T3 : TI Try.prog 3 false (.int .i64 0) 1 8 := TI.mk' Try.underlying3 rfl (by kernel_rfl)
theorem T4 : TI Try.prog 4 false (.bool false) 1 1 := TI.mk' Try.underlying4 rfl (by kernel_rfl)
theorem T27 : TI Try.prog 27 true (.agg #[.bool false, .int .i64 0, .int .i64 0]) 3 24 := TI.mk' Try.underlying27 rfl (by kernel_rfl)
theorem T33 : TI Try.prog 33 true (.agg #[.int .i64 0, .int .i64 0]) 2 16 := TI.mk' Try.underlying33 rfl (by kernel_rfl)
theorem F27_0 : FldOK Try.prog 27 0 0 := ⟨_, _, 0, Try.underlying27, rfl, rfl, by kernel_rfl⟩
theorem F27_1 : FldOK Try.prog 27 1 1 := ⟨_, _, 0, Try.underlying27, rfl, rfl, by kernel_rfl⟩
theorem F27_2 : FldOK Try.prog 27 2 2 := ⟨_, _, 0, Try.underlying27, rfl, rfl, by kernel_rfl⟩
theorem C11 : Callable Try.prog 11 := ⟨_, Try.func11, by kernel_rfl, by kernel_rfl⟩
theorem C12 : Callable Try.prog 12 := ⟨_, Try.func12, by kernel_rfl, by kernel_rfl⟩
theorem C13 : Callable Try.prog 13 := ⟨_, Try.func13, by kernel_rfl, by kernel_rfl⟩
theorem C14 : Callable Try.prog 14 := ⟨_, Try.func14, by kernel_rfl, by kernel_rfl⟩
theorem C15 : Callable Try.prog 15 := ⟨_, Try.func15, by kernel_rfl, by kernel_rfl⟩
theorem C16 : Callable Try.prog 16 := ⟨_, Try.func16, by kernel_rfl, by kernel_rfl⟩
theorem B33_0I_1I (a0 : Int) (a1 : Int) (u : World) : (Instr.build 33 #[(0, .int .i64 a0), (1, .int .i64 a1)]).run Try.prog u = .ok (.agg #[.int .i64 a0, .int .i64 a1]) u := by kernel_rfl
theorem GQ33 : Program.eqGuardType Try.prog Try.prog.depth 33 = false := by kernel_rfl
theorem EQ33 (a b c d : Int) (u : World) : (Op.equalIn 10000 33 (.agg #[.int .i64 a, .int .i64 b]) (.agg #[.int .i64 c, .int .i64 d])).run Try.prog u = .ok (a == c && b == d) u := eqS2 Try.underlying33 (by decide) (by decide) rfl rfl T3 T3 Try.underlying3 Try.underlying3 (by kernel_rfl) a b c d u
end FnStepsLog_okF
open FnStepsLog_okF in
set_option maxHeartbeats 4000000 in
theorem FnStepsLog_ok (A0 : Option Addr) (n0 c0 : Nat) (xs0 : List UInt8) (w : World) (hR0 : RS encU 1 w w.heap.size A0 n0 xs0) (hn0 : n0 ≤ c0) :
    Fn Try.prog 4 [(.slice A0 n0 c0)] w fun v w' => v = .bool true ∧ Ch [] w w' := by
  have hlen0 := hR0.len
  refine fn_of (n := 73) Try.func4 rfl rfl rfl rfl ?_
  have hc : Ch [] w w := Ch.refl _ _
  refine cw_seq fun K1 hK2 => ?_
  refine cw_region fun K3 hK4 => ?_
  refine rw_cons (op_pv (w0 rfl) rfl rfl (pv_assign (v := (.bool false)) rfl rfl) ?_)
  refine rw_nil (hK4 _ _ ?_)
  refine hK2 _ _ ?_
  refine cw_seq fun K5 hK6 => ?_
  refine cw_seq fun K7 hK8 => ?_
  refine cw_region fun K9 hK10 => ?_
  refine rw_cons (op_pv (w0 rfl) rfl rfl (pv_move (v := (.slice A0 n0 c0)) rfl rfl) ?_)
  refine rw_cons (op_pv (w0 rfl) rfl rfl (pv_len Try.underlying22 rfl rfl) ?_)
  refine rw_cons (op_pv (w0 rfl) rfl rfl (pv_gtr rfl rfl rfl) ?_)
  refine rw_nil (hK10 _ _ ?_)
  refine hK8 _ _ ?_
  refine cw_cond rfl (fun h11 => ?_) (fun h11 => ?_)
  · -- then
    replace h11 := of_decide_eq_true h11
    refine cw_seq fun K12 hK13 => ?_
    refine cw_region fun K14 hK15 => ?_
    refine rw_cons (op_pv (w0 rfl) rfl rfl (pv_assign (v := (.bool true)) rfl rfl) ?_)
    refine rw_nil (hK15 _ _ ?_)
    refine hK13 _ _ ?_
    refine cw_ret ?_
    refine fin1 rfl ?_
    first
      | exact ⟨rfl, hc⟩
      | exact ⟨congrArg Value.bool (dec_yes rfl), hc⟩
      | exact ⟨congrArg Value.bool (dec_yes hlog), hc⟩
      | exact ⟨congrArg Value.bool (decide_eq_true (by omega)), hc⟩
      | exact absurd rfl (by assumption)
      | (exfalso; omega)
  · -- else
    replace h11 := of_decide_eq_false h11
    refine cw_skip ?_
    refine hK6 _ _ ?_
    refine cw_seq fun K16 hK17 => ?_
    refine cw_region fun K18 hK19 => ?_
    refine rw_cons (op_pv (w0 rfl) rfl rfl (pv_move (v := (.slice A0 n0 c0)) rfl rfl) ?_)
    refine rw_cons (op_call (w0 rfl) rfl rfl (rc_call C11 rfl rfl) (DrawStepsLog_ok _ _ _ _ _ (hR0.more (by omega)) (by omega)) ?_)
    rintro _ w20 ⟨A23, c24, xs22, rfl, hO25, hl27, hch21⟩
    have hsz28 := hch21.size
    replace hR0 := hR0.ch0 hch21
    replace hc := hc.step0 hch21
    have hub26 := hO25.lt
    have hcap29 : xs22.length ≤ c24 := by obtain ⟨_, _, hv, h1, _⟩ := hO25.form; injection hv with _ _ h3; omega
    refine rw_cons (op_pv (w0 rfl) rfl rfl (pv_assign (v := (.slice A23 xs22.length c24)) rfl rfl) ?_)
    refine rw_nil (hK19 _ _ ?_)
    refine hK17 _ _ ?_
    refine cw_seq fun K30 hK31 => ?_
    refine cw_region fun K32 hK33 => ?_
    refine rw_cons (op_pv (w0 rfl) rfl rfl (pv_move (v := (.slice A23 xs22.length c24)) rfl rfl) ?_)
    refine rw_cons (op_call (w0 rfl) rfl rfl (rc_call C12 rfl rfl) (StepsLog_i _ xs22.length _ xs22 _ (hO25.rs (fun _ => rfl)) (by omega)) ?_)
    rintro _ w34 ⟨A36, c37, rfl, hO38, hch35⟩
    have hsz39 := hch35.size
    replace hR0 := hR0.ch0 hch35
    replace hO25 := hO25.ch0 hch35
    replace hc := hc.step0 hch35
    have hub40 := hO38.lt
    have hcap41 : (logV xs22).length ≤ c37 := by obtain ⟨_, _, hv, h1, _⟩ := hO38.form; injection hv with _ _ h3; omega
    have hnt42 := logV_le xs22
    refine rw_cons (op_pv (w0 rfl) rfl rfl (pv_assign (v := (.slice A36 (logV xs22).length c37)) rfl rfl) ?_)
    refine rw_nil (hK33 _ _ ?_)
    refine hK31 _ _ ?_
    refine cw_seq fun K43 hK44 => ?_
    refine cw_region fun K45 hK46 => ?_
    refine rw_cons (op_pv (w0 rfl) rfl rfl (pv_move (v := (.slice A23 xs22.length c24)) rfl rfl) ?_)
    refine rw_cons (op_call (w0 rfl) rfl rfl (rc_call C13 rfl rfl) (StepsLog_s _ xs22.length _ xs22 _ (hO25.rs (fun _ => rfl)) (by omega)) ?_)
    rintro _ w47 ⟨A49, c50, rfl, hO51, hch48⟩
    have hsz52 := hch48.size
    replace hR0 := hR0.ch0 hch48
    replace hO25 := hO25.ch0 hch48
    replace hO38 := hO38.ch0 hch48
    replace hc := hc.step0 hch48
    have hub53 := hO51.lt
    have hcap54 : (logV xs22).length ≤ c50 := by obtain ⟨_, _, hv, h1, _⟩ := hO51.form; injection hv with _ _ h3; omega
    have hnt55 := logV_le xs22
    refine rw_cons (op_pv (w0 rfl) rfl rfl (pv_assign (v := (.slice A49 (logV xs22).length c50)) rfl rfl) ?_)
    refine rw_nil (hK46 _ _ ?_)
    refine hK44 _ _ ?_
    refine cw_seq fun K56 hK57 => ?_
    refine cw_seq fun K58 hK59 => ?_
    refine cw_region fun K60 hK61 => ?_
    refine rw_cons (op_pv (w0 rfl) rfl rfl (pv_move (v := (.slice A36 (logV xs22).length c37)) rfl rfl) ?_)
    refine rw_cons (op_pv (w0 rfl) rfl rfl (pv_move (v := (.slice A49 (logV xs22).length c50)) rfl rfl) ?_)
    refine rw_cons (op_call (w0 rfl) rfl rfl (rc_call C14 rfl rfl) (sameLog_same _ _ _ _ _ _ (logV xs22) _ (hO38.rs (fun _ => rfl)) (hO51.rs (fun _ => rfl)) (by omega)) ?_)
    rintro _ w62 ⟨rfl, hch63⟩
    have hsz64 := hch63.size
    replace hR0 := hR0.ch0 hch63
    replace hO25 := hO25.ch0 hch63
    replace hO38 := hO38.ch0 hch63
    replace hO51 := hO51.ch0 hch63
    replace hc := hc.step0 hch63
    refine rw_cons (op_pv (w0 rfl) rfl rfl (pv_not rfl rfl) ?_)
    refine rw_cons (op_pv (w0 rfl) rfl rfl (pv_move (v := (.bool (!true))) rfl rfl) ?_)
    refine rw_cons (op_pv (w1y rfl rfl rfl rfl) rfl rfl (pv_move (v := (.slice A23 xs22.length c24)) rfl rfl) ?_)
    refine rw_cons (op_call (w1y rfl rfl rfl rfl) rfl rfl (rc_call C15 rfl rfl) (StepsValid_s _ xs22.length _ xs22 _ (hO25.rs (fun _ => rfl)) (by omega)) ?_)
    rintro _ w65 ⟨rfl, hch66⟩
    have hsz67 := hch66.size
    replace hR0 := hR0.ch0 hch66
    replace hO25 := hO25.ch0 hch66
    replace hO38 := hO38.ch0 hch66
    replace hO51 := hO51.ch0 hch66
    replace hc := hc.step0 hch66
    refine rw_cons (op_pv (w1y rfl rfl rfl rfl) rfl rfl (pv_not rfl rfl) ?_)
    refine rw_cons (op_pv (w0 rfl) rfl rfl (pv_pickF (v := (.bool (!(dec (StepsOK xs22))))) rfl rfl rfl) ?_)
    refine rw_nil (hK61 _ _ ?_)
    refine hK59 _ _ ?_
    refine cw_cond rfl (fun h68 => ?_) (fun h68 => ?_)
    · -- then
      replace h68 := not_t h68
      replace h68 := dec_f h68
      refine cw_seq fun K69 hK70 => ?_
      refine cw_region fun K71 hK72 => ?_
      refine rw_cons (op_pv (w0 rfl) rfl rfl (pv_move (v := (.slice A36 (logV xs22).length c37)) rfl rfl) ?_)
      refine rw_cons (op_pv (w0 rfl) rfl rfl (pv_move (v := (.slice A49 (logV xs22).length c50)) rfl rfl) ?_)
      refine rw_cons (op_call (w0 rfl) rfl rfl (rc_call C14 rfl rfl) (sameLog_same _ _ _ _ _ _ (logV xs22) _ (hO38.rs (fun _ => rfl)) (hO51.rs (fun _ => rfl)) (by omega)) ?_)
      rintro _ w73 ⟨rfl, hch74⟩
      have hsz75 := hch74.size
      replace hR0 := hR0.ch0 hch74
      replace hO25 := hO25.ch0 hch74
      replace hO38 := hO38.ch0 hch74
      replace hO51 := hO51.ch0 hch74
      replace hc := hc.step0 hch74
      refine rw_cons (op_pv (w0 rfl) rfl rfl (pv_assign (v := (.bool true)) rfl rfl) ?_)
      refine rw_nil (hK72 _ _ ?_)
      refine hK70 _ _ ?_
      refine cw_ret ?_
      refine fin1 rfl ?_
      first
        | exact ⟨rfl, hc⟩
        | exact ⟨congrArg Value.bool (dec_yes rfl), hc⟩
        | exact ⟨congrArg Value.bool (dec_yes hlog), hc⟩
        | exact ⟨congrArg Value.bool (decide_eq_true (by omega)), hc⟩
        | exact absurd rfl (by assumption)
        | (exfalso; omega)
    · -- else
      replace h68 := not_f h68
      replace h68 := dec_t h68
      refine cw_skip ?_
      refine hK57 _ _ ?_
      refine cw_seq fun K76 hK77 => ?_
      refine cw_region fun K78 hK79 => ?_
      refine rw_cons (op_pv (w0 rfl) rfl rfl (pv_assign (v := (.int .i64 0)) rfl rfl) ?_)
      refine rw_nil (hK79 _ _ ?_)
      refine hK77 _ _ ?_
      refine cw_seq fun K80 hK81 => ?_
      refine cw_seq fun K82 hK83 => ?_
      refine cw_region fun K84 hK85 => ?_
      refine rw_cons (op_pv (w0 rfl) rfl rfl (pv_assign (v := (.int .i64 0)) rfl rfl) ?_)
      refine rw_nil (hK85 _ _ ?_)
      refine hK83 _ _ ?_
      refine cw_block ?_
      refine cw_loop (σ := Nat) (fun k => [(6, (.int .i64 (puts (xs22.take k) : Int))), (7, (.int .i64 (k : Int))), (3, (.slice A23 xs22.length c24)), (4, (.slice A36 (logV xs22).length c37))]) (fun k W => (k ≤ xs22.length) ∧ RS encU 1 W w.heap.size A0 n0 xs0 ∧ Own encP 3 W w.heap.size 27 (.slice A23 xs22.length c24) xs22 ∧ Own encB 2 W w20.heap.size 33 (.slice A36 (logV xs22).length c37) (logV xs22) ∧ Own encB 2 W w34.heap.size 33 (.slice A49 (logV xs22).length c50) (logV xs22) ∧ Ch [] w W ∧ w20.heap.size ≤ W.heap.size ∧ w34.heap.size ≤ W.heap.size) (fun k => xs22.length - k) 0 ?_ ?_ ?_
      · exact ⟨rfl, rfl, rfl, rfl, trivial⟩
      · refine ⟨Nat.zero_le _, hR0, hO25, hO38, hO51, hc, (by omega), (by omega)⟩
      · rintro k J92 w86 ⟨hk, hR0, hO25, hO38, hO51, hc, hmono87, hmono88⟩ K89 hK90
        have hsz94 := hc.size
        have hub95 := hO25.lt
        have hub96 := hO38.lt
        have hub97 := hO51.lt
        have hpl := puts_le (xs22.take k)
        have htl : (xs22.take k).length ≤ k := List.length_take_le _ _
        refine cw_seq fun K98 hK99 => ?_
        refine cw_seq fun K100 hK101 => ?_
        refine cw_region fun K102 hK103 => ?_
        refine rw_cons (op_pv (w0 rfl) rfl rfl (pv_move (v := (.int .i64 (k : Int))) rfl rfl) ?_)
        refine rw_cons (op_pv (w0 rfl) rfl rfl (pv_move (v := (.slice A23 xs22.length c24)) rfl rfl) ?_)
        refine rw_cons (op_pv (w0 rfl) rfl rfl (pv_len Try.underlying23 rfl rfl) ?_)
        refine rw_cons (op_pv (w0 rfl) rfl rfl (pv_lss rfl rfl rfl) ?_)
        refine rw_nil (hK103 _ _ ?_)
        refine hK101 _ _ ?_
        refine cw_cond rfl (fun h104 => ?_) (fun h104 => ?_)
        · -- then
          replace h104 := of_decide_eq_true h104
          refine cw_skip ?_
          refine hK99 _ _ ?_
          refine cw_seq fun K105 hK106 => ?_
          refine cw_block ?_
          refine cw_seq fun K107 hK108 => ?_
          refine cw_region fun K109 hK110 => ?_
          refine rw_cons (op_pv (w0 rfl) rfl rfl (pv_move (v := (.slice A23 xs22.length c24)) rfl rfl) ?_)
          refine rw_cons (op_pv (w0 rfl) rfl rfl (pv_move (v := (.int .i64 (k : Int))) rfl rfl) ?_)
          refine rw_cons (op_pv (w0 rfl) rfl rfl (pv_idx Try.underlying23 T27 rfl rfl rfl ((hO25.rs (fun _ => rfl)).some (k := k) (by omega)) (by omega) (by omega)) ?_)
          refine rw_cons (op_pv (w0 rfl) rfl rfl (pv_fld F27_0 rfl rfl) ?_)
          refine rw_cons (op_lv (w0 rfl) rfl rfl (lv_load T4 rfl rfl ((hO25.rs (fun _ => rfl)).cellE (k := k) (j := 0) (by omega) rfl)) ?_)
          refine rw_cons (op_pv (w0 rfl) rfl rfl (pv_not rfl rfl) ?_)
          refine rw_nil (hK110 _ _ ?_)
          refine hK108 _ _ ?_
          refine cw_cond rfl (fun h111 => ?_) (fun h111 => ?_)
          · -- then
            replace h111 := not_t h111
            refine cw_seq fun K112 hK113 => ?_
            refine cw_seq fun K114 hK115 => ?_
            have hrk : (el xs22 k).r = false := (by first | assumption | simp_all)
            obtain ⟨hla1, hla2, hla3⟩ := log_at (‹StepsOK xs22›) (k := k) (by omega) hrk
            refine cw_drawn (fun u => Ch [] w86 u) (.free 0 (.free 1 (.free 2 (.free 3 (.free 4 (.free 5 (.free 6 (.free 7 (.free 8 (.free 9 (.free 10 (.free 11 (.free 12 (.free 13 (.free 14 (.free 15 (.free 16 (.free 17 (.free 18 (.free 19 (.free 20 (.free 21 (.done))))))))))))))))))))))) (by kernel_rfl) (by kernel_rfl) (Ch.refl _ _).drew fun K119 hK120 => ?_
            obtain ⟨w116, hw_, hch117, hsz118⟩ : ∃ w1 : World, w1 = w86.drew ∧ Ch [] w86 w1 ∧ w1.heap.size = w86.heap.size := ⟨_, rfl, (Ch.refl _ _).drew, rfl⟩
            rw [← hw_]; clear hw_
            have hr121 : Ch [] w86 w116 := hch117.sub (fun s hs => by cases hs)
            have hR0_r := hR0
            have hO25_r := hO25
            have hO38_r := hO38
            have hO51_r := hO51
            have hsz122 := hch117.size
            replace hR0 := hR0.ch0 hch117
            replace hO25 := hO25.ch0 hch117
            replace hO38 := hO38.ch0 hch117
            replace hO51 := hO51.ch0 hch117
            replace hc := hc.step0 hch117
            refine tw_free rfl (w0 rfl) rfl rfl (fun u hu => (pv_move (v := (.int .i64 (puts (xs22.take k) : Int))) rfl rfl : PV _ _ _ _) u) ?_
            refine tw_free rfl (w0 rfl) rfl rfl (fun u hu => (pv_move (v := (.slice A36 (logV xs22).length c37)) rfl rfl : PV _ _ _ _) u) ?_
            refine tw_free rfl (w0 rfl) rfl rfl (fun u hu => (pv_len Try.underlying29 rfl rfl : PV _ _ _ _) u) ?_
            refine tw_free rfl (w0 rfl) rfl rfl (fun u hu => (pv_geq rfl rfl rfl : PV _ _ _ _) u) ?_
            refine tw_free rfl (w0 rfl) rfl rfl (fun u hu => (pv_move (v := (.bool (decide (((logV xs22).length : Int) ≤ (puts (xs22.take k) : Int))))) rfl rfl : PV _ _ _ _) u) ?_
            refine tw_split 45 rfl (fun hb123 => ?_) (fun hb123 => ?_)
            · -- yes
              replace hb123 := of_decide_eq_true hb123
              refine tw_pass rfl (w1n2 rfl rfl rfl rfl) rfl rfl ?_
              refine tw_pass rfl (w1n2 rfl rfl rfl rfl) rfl rfl ?_
              refine tw_pass rfl (w1n2 rfl rfl rfl rfl) rfl rfl ?_
              refine tw_pass rfl (w1n2 rfl rfl rfl rfl) rfl rfl ?_
              refine tw_pass rfl (w1n2 rfl rfl rfl rfl) rfl rfl ?_
              refine tw_pass rfl (w1n2 rfl rfl rfl rfl) rfl rfl ?_
              refine tw_pass rfl (w1n2 rfl rfl rfl rfl) rfl rfl ?_
              refine tw_pass rfl (w1n2 rfl rfl rfl rfl) rfl rfl ?_
              refine tw_pass rfl (w1n2 rfl rfl rfl rfl) rfl rfl ?_
              refine tw_pass rfl (w1n2 rfl rfl rfl rfl) rfl rfl ?_
              refine tw_pass rfl (w1n2 rfl rfl rfl rfl) rfl rfl ?_
              refine tw_pass rfl (w1n2 rfl rfl rfl rfl) rfl rfl ?_
              refine tw_pass rfl (w1n2 rfl rfl rfl rfl) rfl rfl ?_
              refine tw_pass rfl (w1n2 rfl rfl rfl rfl) rfl rfl ?_
              refine tw_pass rfl (w1n2 rfl rfl rfl rfl) rfl rfl ?_
              refine tw_pass rfl (w1n2 rfl rfl rfl rfl) rfl rfl ?_
              refine tw_free rfl (w0 rfl) rfl rfl (fun u hu => (pv_pickT (v := (.bool true)) rfl rfl rfl : PV _ _ _ _) u) ?_
              try clear hO25_r
              try clear hO38_r
              try clear hO51_r
              try clear hR0_r
              refine tw_done (hK120 _ _ ?_)
              refine hK115 _ _ ?_
              refine cw_cond rfl (fun h124 => ?_) (fun h124 => ?_)
              · -- then
                clear h124
                refine cw_seq fun K125 hK126 => ?_
                refine cw_region fun K127 hK128 => ?_
                refine rw_cons (op_pv (w0 rfl) rfl rfl (pv_assign (v := (.bool false)) rfl rfl) ?_)
                refine rw_nil (hK128 _ _ ?_)
                refine hK126 _ _ ?_
                refine cw_ret ?_
                refine fin1 rfl ?_
                first
                  | exact ⟨rfl, hc⟩
                  | exact ⟨congrArg Value.bool (dec_yes rfl), hc⟩
                  | exact ⟨congrArg Value.bool (dec_yes hlog), hc⟩
                  | exact ⟨congrArg Value.bool (decide_eq_true (by omega)), hc⟩
                  | exact absurd rfl (by assumption)
                  | (exfalso; omega)
              · -- else
                cases h124
            · -- no
              replace hb123 := of_decide_eq_false hb123
              refine tw_free rfl (w1y rfl rfl rfl rfl) rfl rfl (fun u hu => (pv_move (v := (.slice A36 (logV xs22).length c37)) rfl rfl : PV _ _ _ _) u) ?_
              refine tw_free rfl (w1y rfl rfl rfl rfl) rfl rfl (fun u hu => (pv_move (v := (.int .i64 (puts (xs22.take k) : Int))) rfl rfl : PV _ _ _ _) u) ?_
              refine tw_free rfl (w1y rfl rfl rfl rfl) rfl rfl (fun u hu => (pv_idx Try.underlying29 T33 rfl rfl rfl ((hO38.rs (fun _ => rfl)).some (k := (puts (xs22.take k))) (by omega)) (by omega) (by omega) : PV _ _ _ _) u) ?_
              refine tw_free rfl (w1y rfl rfl rfl rfl) rfl rfl (fun u hu => lv_loadN T33 rfl rfl rfl (fun j v hv => ((hO38_r.ch0 hu).rs (fun _ => rfl)).cellE (k := (puts (xs22.take k))) (by omega) hv)) ?_
              refine tw_free rfl (w1y rfl rfl rfl rfl) rfl rfl (fun u hu => (pv_move (v := (.slice A23 xs22.length c24)) rfl rfl : PV _ _ _ _) u) ?_
              refine tw_free rfl (w1y rfl rfl rfl rfl) rfl rfl (fun u hu => (pv_move (v := (.int .i64 (k : Int))) rfl rfl : PV _ _ _ _) u) ?_
              refine tw_free rfl (w1y rfl rfl rfl rfl) rfl rfl (fun u hu => (pv_idx Try.underlying23 T27 rfl rfl rfl ((hO25.rs (fun _ => rfl)).some (k := k) (by omega)) (by omega) (by omega) : PV _ _ _ _) u) ?_
              refine tw_free rfl (w1y rfl rfl rfl rfl) rfl rfl (fun u hu => (pv_fld F27_1 rfl rfl : PV _ _ _ _) u) ?_
              refine tw_free rfl (w1y rfl rfl rfl rfl) rfl rfl (fun u hu => lv_load T3 rfl rfl (((hO25_r.ch0 hu).rs (fun _ => rfl)).cellE (k := k) (j := 1) (by omega) rfl)) ?_
              refine tw_free rfl (w1y rfl rfl rfl rfl) rfl rfl (fun u hu => (pv_move (v := (.slice A23 xs22.length c24)) rfl rfl : PV _ _ _ _) u) ?_
              refine tw_free rfl (w1y rfl rfl rfl rfl) rfl rfl (fun u hu => (pv_move (v := (.int .i64 (k : Int))) rfl rfl : PV _ _ _ _) u) ?_
              refine tw_free rfl (w1y rfl rfl rfl rfl) rfl rfl (fun u hu => (pv_idx Try.underlying23 T27 rfl rfl rfl ((hO25.rs (fun _ => rfl)).some (k := k) (by omega)) (by omega) (by omega) : PV _ _ _ _) u) ?_
              refine tw_free rfl (w1y rfl rfl rfl rfl) rfl rfl (fun u hu => (pv_fld F27_2 rfl rfl : PV _ _ _ _) u) ?_
              refine tw_free rfl (w1y rfl rfl rfl rfl) rfl rfl (fun u hu => lv_load T3 rfl rfl (((hO25_r.ch0 hu).rs (fun _ => rfl)).cellE (k := k) (j := 2) (by omega) rfl)) ?_
              refine tw_free rfl (w1y rfl rfl rfl rfl) rfl rfl (fun u hu => (pv_build rfl rfl (B33_0I_1I _ _) : PV _ _ _ _) u) ?_
              refine tw_free rfl (w1y rfl rfl rfl rfl) rfl rfl (fun u hu => (pv_neqS2 GQ33 EQ33 rfl rfl rfl : PV _ _ _ _) u) ?_
              refine tw_free rfl (w0 rfl) rfl rfl (fun u hu => (pv_pickF (v := (.bool (decide (¬((el (logV xs22) (puts (xs22.take k))).s = (el xs22 k).k ∧ (el (logV xs22) (puts (xs22.take k))).a = (el xs22 k).v))))) rfl rfl rfl : PV _ _ _ _) u) ?_
              try clear hO25_r
              try clear hO38_r
              try clear hO51_r
              try clear hR0_r
              refine tw_done (hK120 _ _ ?_)
              refine hK115 _ _ ?_
              refine cw_cond rfl (fun h129 => ?_) (fun h129 => ?_)
              · -- then
                replace h129 := of_decide_eq_true h129
                refine cw_seq fun K130 hK131 => ?_
                refine cw_region fun K132 hK133 => ?_
                refine rw_cons (op_pv (w0 rfl) rfl rfl (pv_assign (v := (.bool false)) rfl rfl) ?_)
                refine rw_nil (hK133 _ _ ?_)
                refine hK131 _ _ ?_
                refine cw_ret ?_
                refine fin1 rfl ?_
                first
                  | exact ⟨rfl, hc⟩
                  | exact ⟨congrArg Value.bool (dec_yes rfl), hc⟩
                  | exact ⟨congrArg Value.bool (dec_yes hlog), hc⟩
                  | exact ⟨congrArg Value.bool (decide_eq_true (by omega)), hc⟩
                  | exact absurd rfl (by assumption)
                  | (exfalso; omega)
              · -- else
                replace h129 := of_decide_eq_false h129
                refine cw_skip ?_
                refine hK113 _ _ ?_
                refine cw_region fun K134 hK135 => ?_
                refine rw_cons (op_pv (w0 rfl) rfl rfl (pv_move (v := (.int .i64 (puts (xs22.take k) : Int))) rfl rfl) ?_)
                refine rw_cons (op_pv (w0 rfl) rfl rfl (pv_add rfl rfl rfl (by omega) (by omega)) ?_)
                refine rw_cons (op_pv (w0 rfl) rfl rfl (pv_assign (v := (.int .i64 ((puts (xs22.take k) : Int) + 1))) rfl rfl) ?_)
                refine rw_nil (hK135 _ _ ?_)
                refine hK106 _ _ ?_
                refine cw_region fun K136 hK137 => ?_
                refine rw_cons (op_pv (w0 rfl) rfl rfl (pv_move (v := (.int .i64 (k : Int))) rfl rfl) ?_)
                refine rw_cons (op_pv (w0 rfl) rfl rfl (pv_add rfl rfl rfl (by omega) (by omega)) ?_)
                refine rw_cons (op_pv (w0 rfl) rfl rfl (pv_assign (v := (.int .i64 ((k : Int) + 1))) rfl rfl) ?_)
                refine rw_nil (hK137 _ _ ?_)
                refine hK90 _ _ (k + 1) ⟨(iv (by rw [puts_take_put (by omega) (by first | assumption | simp_all)])), (iv (by omega)), rfl, rfl, trivial⟩ ⟨?_, hR0, hO25, hO38, hO51, hc, (by omega), (by omega)⟩ ?_
                · omega
                · (first | omega | (simp only []; omega))
          · -- else
            replace h111 := not_f h111
            refine cw_skip ?_
            refine hK106 _ _ ?_
            refine cw_region fun K138 hK139 => ?_
            refine rw_cons (op_pv (w0 rfl) rfl rfl (pv_move (v := (.int .i64 (k : Int))) rfl rfl) ?_)
            refine rw_cons (op_pv (w0 rfl) rfl rfl (pv_add rfl rfl rfl (by omega) (by omega)) ?_)
            refine rw_cons (op_pv (w0 rfl) rfl rfl (pv_assign (v := (.int .i64 ((k : Int) + 1))) rfl rfl) ?_)
            refine rw_nil (hK139 _ _ ?_)
            refine hK90 _ _ (k + 1) ⟨(iv (by rw [puts_take_read (by omega) (by first | assumption | simp_all)])), (iv (by omega)), rfl, rfl, trivial⟩ ⟨?_, hR0, hO25, hO38, hO51, hc, (by omega), (by omega)⟩ ?_
            · omega
            · (first | omega | (simp only []; omega))
        · -- else
          replace h104 := of_decide_eq_false h104
          refine cw_exit ?_
          refine hK81 _ _ ?_
          refine cw_seq fun K140 hK141 => ?_
          have hpa : puts (xs22.take k) = puts xs22 := by rw [el_take_all xs22 k (by omega)]
          have hll := logV_len ‹StepsOK xs22›
          have hlog := logok_steps ‹StepsOK xs22›
          refine cw_region fun K142 hK143 => ?_
          refine rw_cons (op_pv (w0 rfl) rfl rfl (pv_move (v := (.int .i64 (puts (xs22.take k) : Int))) rfl rfl) ?_)
          refine rw_cons (op_pv (w0 rfl) rfl rfl (pv_move (v := (.slice A36 (logV xs22).length c37)) rfl rfl) ?_)
          refine rw_cons (op_pv (w0 rfl) rfl rfl (pv_len Try.underlying29 rfl rfl) ?_)
          refine rw_cons (op_pv (w0 rfl) rfl rfl (pv_eql rfl rfl rfl) ?_)
          refine rw_cons (op_pv (w0 rfl) rfl rfl (pv_move (v := (.bool (decide (((puts (xs22.take k) : Int) : Int) = ((logV xs22).length : Int))))) rfl rfl) ?_)
          refine rw_split 69 rfl (fun hb144 => ?_) (fun hb144 => ?_)
          · -- yes
            replace hb144 := of_decide_eq_true hb144
            refine rw_cons (op_pv (w1y rfl rfl rfl rfl) rfl rfl (pv_move (v := (.slice A36 (logV xs22).length c37)) rfl rfl) ?_)
            refine rw_cons (op_call (w1y rfl rfl rfl rfl) rfl rfl (rc_call C16 rfl rfl) (LogValid_i _ _ _ (logV xs22) _ (hO38.rs (fun _ => rfl)) (by omega)) ?_)
            rintro _ w145 ⟨rfl, hch146⟩
            have hsz147 := hch146.size
            replace hR0 := hR0.ch0 hch146
            replace hO25 := hO25.ch0 hch146
            replace hO38 := hO38.ch0 hch146
            replace hO51 := hO51.ch0 hch146
            replace hc := hc.step0 hch146
            refine rw_cons (op_pv (w0 rfl) rfl rfl (pv_pickT (v := (.bool (dec (LogOK (logV xs22))))) rfl rfl rfl) ?_)
            refine rw_cons (op_pv (w0 rfl) rfl rfl (pv_assign (v := (.bool (dec (LogOK (logV xs22))))) rfl rfl) ?_)
            refine rw_nil (hK143 _ _ ?_)
            refine hK141 _ _ ?_
            refine cw_ret ?_
            refine fin1 rfl ?_
            first
              | exact ⟨rfl, hc⟩
              | exact ⟨congrArg Value.bool (dec_yes rfl), hc⟩
              | exact ⟨congrArg Value.bool (dec_yes hlog), hc⟩
              | exact ⟨congrArg Value.bool (decide_eq_true (by omega)), hc⟩
              | exact absurd rfl (by assumption)
              | (exfalso; omega)
          · -- no
            replace hb144 := of_decide_eq_false hb144
            refine rw_cons (op_pass (w1n1 rfl rfl rfl rfl) rfl rfl ?_)
            refine rw_cons (op_pass (w1n1 rfl rfl rfl rfl) rfl rfl ?_)
            refine rw_cons (op_pv (w0 rfl) rfl rfl (pv_pickF (v := (.bool false)) rfl rfl rfl) ?_)
            refine rw_cons (op_pv (w0 rfl) rfl rfl (pv_assign (v := (.bool false)) rfl rfl) ?_)
            refine rw_nil (hK143 _ _ ?_)
            refine hK141 _ _ ?_
            refine cw_ret ?_
            refine fin1 rfl ?_
            first
              | exact ⟨rfl, hc⟩
              | exact ⟨congrArg Value.bool (dec_yes rfl), hc⟩
              | exact ⟨congrArg Value.bool (dec_yes hlog), hc⟩
              | exact ⟨congrArg Value.bool (decide_eq_true (by omega)), hc⟩
              | exact absurd rfl (by assumption)
              | (exfalso; omega)
end Go.Proofs.Ytdnncgapbjnfoaa

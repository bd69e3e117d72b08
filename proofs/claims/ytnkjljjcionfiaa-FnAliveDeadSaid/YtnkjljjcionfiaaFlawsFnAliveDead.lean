/-
  The walk of laws.FnAliveDead, written by program: each line names the law of one operation. Conditions: those of the theorem.
-/
import Derived.Test.YtnkjljjcionfiaaProg
import Derived.Test.YtnkjljjcionfiaaBeats2
import Derived.Test.YtnkjljjcionfiaaFspecDrawBeatsDead
import Derived.Test.YtnkjljjcionfiaaFimplBeatsAlive
import Derived.Test.YtnkjljjcionfiaaFspecBeatsValid
import Derived.Test.YtnkjljjcionfiaaFimplBeatsDead
import Derived.Test.YtnkjljjcionfiaaFspecBeatsDead
import Derived.Test.YtnkjljjcionfiaaFlawssameInts
import Derived.Test.YtnkjljjcionfiaaFlawshasInt
import Derived.KernelRfl
namespace Go.Proofs.Ytnkjljjcionfiaa
open Go Go.RowKit
set_option linter.unusedVariables false
set_option linter.unusedSimpArgs false
namespace FnAliveDead_okF
theorem T3 : TI Try.prog 3 false (.int .i64 0) 1 8 := TI.mk' Try.underlying3 rfl (by kernel_rfl)
theorem T39 : TI Try.prog 39 true (.agg #[.int .i64 0, .int .i64 0]) 2 16 := TI.mk' Try.underlying39 rfl (by kernel_rfl)
theorem F39_0 : FldOK Try.prog 39 0 0 := ⟨_, _, 0, Try.underlying39, rfl, rfl, by kernel_rfl⟩
theorem C18 : Callable Try.prog 18 := ⟨_, Try.func18, by kernel_rfl, by kernel_rfl⟩
theorem C23 : Callable Try.prog 23 := ⟨_, Try.func23, by kernel_rfl, by kernel_rfl⟩
theorem C25 : Callable Try.prog 25 := ⟨_, Try.func25, by kernel_rfl, by kernel_rfl⟩
theorem C26 : Callable Try.prog 26 := ⟨_, Try.func26, by kernel_rfl, by kernel_rfl⟩
theorem C27 : Callable Try.prog 27 := ⟨_, Try.func27, by kernel_rfl, by kernel_rfl⟩
theorem C28 : Callable Try.prog 28 := ⟨_, Try.func28, by kernel_rfl, by kernel_rfl⟩
theorem C29 : Callable Try.prog 29 := ⟨_, Try.func29, by kernel_rfl, by kernel_rfl⟩
end FnAliveDead_okF
open FnAliveDead_okF in
set_option maxHeartbeats 4000000 in
theorem FnAliveDead_ok (A0 : Option Addr) (n0 c0 : Nat) (xs0 : List UInt8) (w : World) (hR0 : RS encU 1 w w.heap.size A0 n0 xs0) (hn0 : n0 ≤ c0) :
    Fn Try.prog 8 [(.slice A0 n0 c0)] w fun v w' => v = .bool true ∧ Ch [] w w' := by
  have hlen0 := hR0.len
  refine fn_of (n := 88) Try.func8 rfl rfl rfl rfl ?_
  have hc : Ch [] w w := Ch.refl _ _
  refine cw_seq fun K1 hK2 => ?_
  refine cw_region fun K3 hK4 => ?_
  refine rw_cons (op_pv (w0 rfl) rfl rfl (pv_assign (v := (.bool false)) rfl rfl) ?_)
  refine rw_nil (hK4 _ _ ?_)
  refine hK2 _ _ ?_
  refine cw_seq fun K5 hK6 => ?_
  refine cw_seq fun K7 hK8 => ?_
  refine cw_region fun K9 hK10 => ?_
  refine rw_cons (op_pv (w0 rfl) rfl rfl (pv_move (v := (.slice A0 n0 c0)) rfl rfl) ?_)
  refine rw_cons (op_pv (w0 rfl) rfl rfl (pv_len Try.underlying22 rfl rfl) ?_)
  refine rw_cons (op_pv (w0 rfl) rfl rfl (pv_gtr rfl rfl rfl) ?_)
  refine rw_nil (hK10 _ _ ?_)
  refine hK8 _ _ ?_
  refine cw_cond rfl (fun h11 => ?_) (fun h11 => ?_)
  · -- then
    replace h11 := of_decide_eq_true h11
    refine cw_seq fun K12 hK13 => ?_
    refine cw_region fun K14 hK15 => ?_
    refine rw_cons (op_pv (w0 rfl) rfl rfl (pv_assign (v := (.bool true)) rfl rfl) ?_)
    refine rw_nil (hK15 _ _ ?_)
    refine hK13 _ _ ?_
    refine cw_ret ?_
    refine fin1 rfl ?_
    exact ⟨rfl, hc⟩
  · -- else
    replace h11 := of_decide_eq_false h11
    refine cw_skip ?_
    refine hK6 _ _ ?_
    refine cw_seq fun K16 hK17 => ?_
    refine cw_region fun K18 hK19 => ?_
    refine rw_cons (op_pv (w0 rfl) rfl rfl (pv_move (v := (.slice A0 n0 c0)) rfl rfl) ?_)
    refine rw_cons (op_call (w0 rfl) rfl rfl (rc_call C27 rfl rfl) (DrawBeatsDead_ok _ _ _ _ _ (hR0.more (by omega)) (by omega)) ?_)
    rintro _ w20 ⟨A29, c30, xs31, a21, b22, rfl, hO32, hx24, hx25, hx26, hx27, hx28, hch23⟩
    have hsz34 := hch23.size
    replace hR0 := hR0.ch0 hch23
    replace hc := hc.step0 hch23
    have hub33 := hO32.lt
    have hcap35 : xs31.length ≤ c30 := by obtain ⟨_, _, hv, h1, _⟩ := hO32.form; injection hv with _ _ h3; omega
    refine rw_cons (op_pv (w0 rfl) rfl rfl (pv_move (v := (.tuple #[(.slice A29 xs31.length c30), (.int .i64 a21), (.int .i64 b22)])) rfl rfl) ?_)
    refine rw_cons (op_pv (w0 rfl) rfl rfl (pv_ext (v := (.slice A29 xs31.length c30)) rfl rfl rfl) ?_)
    refine rw_cons (op_pv (w0 rfl) rfl rfl (pv_ext (v := (.int .i64 a21)) rfl rfl rfl) ?_)
    refine rw_cons (op_pv (w0 rfl) rfl rfl (pv_ext (v := (.int .i64 b22)) rfl rfl rfl) ?_)
    refine rw_cons (op_pv (w0 rfl) rfl rfl (pv_assign (v := (.slice A29 xs31.length c30)) rfl rfl) ?_)
    refine rw_cons (op_pv (w0 rfl) rfl rfl (pv_assign (v := (.int .i64 a21)) rfl rfl) ?_)
    refine rw_cons (op_pv (w0 rfl) rfl rfl (pv_assign (v := (.int .i64 b22)) rfl rfl) ?_)
    refine rw_nil (hK19 _ _ ?_)
    refine hK17 _ _ ?_
    refine cw_seq fun K36 hK37 => ?_
    refine cw_region fun K38 hK39 => ?_
    refine rw_cons (op_pv (w0 rfl) rfl rfl (pv_move (v := (.slice A29 xs31.length c30)) rfl rfl) ?_)
    refine rw_cons (op_pv (w0 rfl) rfl rfl (pv_move (v := (.int .i64 a21)) rfl rfl) ?_)
    refine rw_cons (op_pv (w0 rfl) rfl rfl (pv_move (v := (.int .i64 b22)) rfl rfl) ?_)
    refine rw_cons (op_call (w0 rfl) rfl rfl (rc_call C28 rfl rfl) (BeatsDead_i _ xs31.length _ xs31 a21 b22 _ (hO32.rs (fun _ => rfl)) (by omega)) ?_)
    rintro _ w40 ⟨A42, c43, rfl, hO44, hch41⟩
    have hsz45 := hch41.size
    replace hR0 := hR0.ch0 hch41
    replace hO32 := hO32.ch0 hch41
    replace hc := hc.step0 hch41
    have hub46 := hO44.lt
    have hcap47 : (srvV xs31 a21 b22 false).length ≤ c43 := by obtain ⟨_, _, hv, h1, _⟩ := hO44.form; injection hv with _ _ h3; omega
    have hnt48 := srvV_le xs31 a21 b22 false
    refine rw_cons (op_pv (w0 rfl) rfl rfl (pv_assign (v := (.slice A42 (srvV xs31 a21 b22 false).length c43)) rfl rfl) ?_)
    refine rw_nil (hK39 _ _ ?_)
    refine hK37 _ _ ?_
    refine cw_seq fun K49 hK50 => ?_
    refine cw_region fun K51 hK52 => ?_
    refine rw_cons (op_pv (w0 rfl) rfl rfl (pv_move (v := (.slice A29 xs31.length c30)) rfl rfl) ?_)
    refine rw_cons (op_pv (w0 rfl) rfl rfl (pv_move (v := (.int .i64 a21)) rfl rfl) ?_)
    refine rw_cons (op_pv (w0 rfl) rfl rfl (pv_move (v := (.int .i64 b22)) rfl rfl) ?_)
    refine rw_cons (op_call (w0 rfl) rfl rfl (rc_call C29 rfl rfl) (BeatsDead_s _ xs31.length _ xs31 a21 b22 _ (hO32.rs (fun _ => rfl)) (by omega)) ?_)
    rintro _ w53 ⟨A55, c56, rfl, hO57, hch54⟩
    have hsz58 := hch54.size
    replace hR0 := hR0.ch0 hch54
    replace hO32 := hO32.ch0 hch54
    replace hO44 := hO44.ch0 hch54
    replace hc := hc.step0 hch54
    have hub59 := hO57.lt
    have hcap60 : (srvV xs31 a21 b22 false).length ≤ c56 := by obtain ⟨_, _, hv, h1, _⟩ := hO57.form; injection hv with _ _ h3; omega
    have hnt61 := srvV_le xs31 a21 b22 false
    refine rw_cons (op_pv (w0 rfl) rfl rfl (pv_assign (v := (.slice A55 (srvV xs31 a21 b22 false).length c56)) rfl rfl) ?_)
    refine rw_nil (hK52 _ _ ?_)
    refine hK50 _ _ ?_
    refine cw_seq fun K62 hK63 => ?_
    refine cw_seq fun K64 hK65 => ?_
    refine cw_region fun K66 hK67 => ?_
    refine rw_cons (op_pv (w0 rfl) rfl rfl (pv_move (v := (.slice A42 (srvV xs31 a21 b22 false).length c43)) rfl rfl) ?_)
    refine rw_cons (op_pv (w0 rfl) rfl rfl (pv_move (v := (.slice A55 (srvV xs31 a21 b22 false).length c56)) rfl rfl) ?_)
    refine rw_cons (op_call (w0 rfl) rfl rfl (rc_call C25 rfl rfl) (sameInts_same _ _ _ _ _ _ (srvV xs31 a21 b22 false) _ (hO44.rs (fun _ => rfl)) (hO57.rs (fun _ => rfl)) (by omega)) ?_)
    rintro _ w68 ⟨rfl, hch69⟩
    have hsz70 := hch69.size
    replace hR0 := hR0.ch0 hch69
    replace hO32 := hO32.ch0 hch69
    replace hO44 := hO44.ch0 hch69
    replace hO57 := hO57.ch0 hch69
    replace hc := hc.step0 hch69
    refine rw_cons (op_pv (w0 rfl) rfl rfl (pv_not rfl rfl) ?_)
    refine rw_cons (op_pv (w0 rfl) rfl rfl (pv_move (v := (.bool (!true))) rfl rfl) ?_)
    refine rw_cons (op_pv (w1y rfl rfl rfl rfl) rfl rfl (pv_move (v := (.slice A29 xs31.length c30)) rfl rfl) ?_)
    refine rw_cons (op_call (w1y rfl rfl rfl rfl) rfl rfl (rc_call C18 rfl rfl) (BeatsValid_s _ _ _ xs31 _ (hO32.rs (fun _ => rfl)) (by omega)) ?_)
    rintro _ w71 ⟨rfl, hch72⟩
    have hsz73 := hch72.size
    replace hR0 := hR0.ch0 hch72
    replace hO32 := hO32.ch0 hch72
    replace hO44 := hO44.ch0 hch72
    replace hO57 := hO57.ch0 hch72
    replace hc := hc.step0 hch72
    refine rw_cons (op_pv (w1y rfl rfl rfl rfl) rfl rfl (pv_not rfl rfl) ?_)
    refine rw_cons (op_pv (w0 rfl) rfl rfl (pv_pickF (v := (.bool (!(dec (BeatsOK xs31))))) rfl rfl rfl) ?_)
    refine rw_cons (op_pv (w0 rfl) rfl rfl (pv_move (v := (.bool (!(dec (BeatsOK xs31))))) rfl rfl) ?_)
    refine rw_split 36 rfl (fun hb74 => ?_) (fun hb74 => ?_)
    · -- yes
      replace hb74 := not_t hb74
      replace hb74 := dec_f hb74
      refine rw_cons (op_pass (w1n2 rfl rfl rfl rfl) rfl rfl ?_)
      refine rw_cons (op_pass (w1n2 rfl rfl rfl rfl) rfl rfl ?_)
      refine rw_cons (op_pv (w0 rfl) rfl rfl (pv_pickT (v := (.bool true)) rfl rfl rfl) ?_)
      refine rw_cons (op_pv (w0 rfl) rfl rfl (pv_move (v := (.bool true)) rfl rfl) ?_)
      refine rw_cons (op_pass (w1n2 rfl rfl rfl rfl) rfl rfl ?_)
      refine rw_cons (op_pass (w1n2 rfl rfl rfl rfl) rfl rfl ?_)
      refine rw_cons (op_pv (w0 rfl) rfl rfl (pv_pickT (v := (.bool true)) rfl rfl rfl) ?_)
      refine rw_cons (op_pv (w0 rfl) rfl rfl (pv_move (v := (.bool true)) rfl rfl) ?_)
      refine rw_cons (op_pass (w1n2 rfl rfl rfl rfl) rfl rfl ?_)
      refine rw_cons (op_pass (w1n2 rfl rfl rfl rfl) rfl rfl ?_)
      refine rw_cons (op_pv (w0 rfl) rfl rfl (pv_pickT (v := (.bool true)) rfl rfl rfl) ?_)
      refine rw_cons (op_pv (w0 rfl) rfl rfl (pv_move (v := (.bool true)) rfl rfl) ?_)
      refine rw_cons (op_pass (w1n2 rfl rfl rfl rfl) rfl rfl ?_)
      refine rw_cons (op_pass (w1n2 rfl rfl rfl rfl) rfl rfl ?_)
      refine rw_cons (op_pv (w0 rfl) rfl rfl (pv_pickT (v := (.bool true)) rfl rfl rfl) ?_)
      refine rw_nil (hK67 _ _ ?_)
      refine hK65 _ _ ?_
      refine cw_cond rfl (fun h75 => ?_) (fun h75 => ?_)
      · -- then
        clear h75
        refine cw_seq fun K76 hK77 => ?_
        refine cw_region fun K78 hK79 => ?_
        refine rw_cons (op_pv (w0 rfl) rfl rfl (pv_move (v := (.slice A42 (srvV xs31 a21 b22 false).length c43)) rfl rfl) ?_)
        refine rw_cons (op_pv (w0 rfl) rfl rfl (pv_move (v := (.slice A55 (srvV xs31 a21 b22 false).length c56)) rfl rfl) ?_)
        refine rw_cons (op_call (w0 rfl) rfl rfl (rc_call C25 rfl rfl) (sameInts_same _ _ _ _ _ _ (srvV xs31 a21 b22 false) _ (hO44.rs (fun _ => rfl)) (hO57.rs (fun _ => rfl)) (by omega)) ?_)
        rintro _ w80 ⟨rfl, hch81⟩
        have hsz82 := hch81.size
        replace hR0 := hR0.ch0 hch81
        replace hO32 := hO32.ch0 hch81
        replace hO44 := hO44.ch0 hch81
        replace hO57 := hO57.ch0 hch81
        replace hc := hc.step0 hch81
        refine rw_cons (op_pv (w0 rfl) rfl rfl (pv_assign (v := (.bool true)) rfl rfl) ?_)
        refine rw_nil (hK79 _ _ ?_)
        refine hK77 _ _ ?_
        refine cw_ret ?_
        refine fin1 rfl ?_
        exact ⟨rfl, hc⟩
      · -- else
        cases h75
    · -- no
      replace hb74 := not_f hb74
      replace hb74 := dec_t hb74
      refine rw_cons (op_pv (w1y rfl rfl rfl rfl) rfl rfl (pv_move (v := (.int .i64 b22)) rfl rfl) ?_)
      refine rw_cons (op_pv (w1y rfl rfl rfl rfl) rfl rfl (pv_lss rfl rfl rfl) ?_)
      refine rw_cons (op_pv (w0 rfl) rfl rfl (pv_pickF (v := (.bool (decide (b22 < 1)))) rfl rfl rfl) ?_)
      refine rw_cons (op_pv (w0 rfl) rfl rfl (pv_move (v := (.bool (decide (b22 < 1)))) rfl rfl) ?_)
      refine rw_split 40 rfl (fun hb83 => ?_) (fun hb83 => ?_)
      · -- yes
        replace hb83 := of_decide_eq_true hb83
        refine rw_cons (op_pass (w1n2 rfl rfl rfl rfl) rfl rfl ?_)
        refine rw_cons (op_pass (w1n2 rfl rfl rfl rfl) rfl rfl ?_)
        refine rw_cons (op_pv (w0 rfl) rfl rfl (pv_pickT (v := (.bool true)) rfl rfl rfl) ?_)
        refine rw_cons (op_pv (w0 rfl) rfl rfl (pv_move (v := (.bool true)) rfl rfl) ?_)
        refine rw_cons (op_pass (w1n2 rfl rfl rfl rfl) rfl rfl ?_)
        refine rw_cons (op_pass (w1n2 rfl rfl rfl rfl) rfl rfl ?_)
        refine rw_cons (op_pv (w0 rfl) rfl rfl (pv_pickT (v := (.bool true)) rfl rfl rfl) ?_)
        refine rw_cons (op_pv (w0 rfl) rfl rfl (pv_move (v := (.bool true)) rfl rfl) ?_)
        refine rw_cons (op_pass (w1n2 rfl rfl rfl rfl) rfl rfl ?_)
        refine rw_cons (op_pass (w1n2 rfl rfl rfl rfl) rfl rfl ?_)
        refine rw_cons (op_pv (w0 rfl) rfl rfl (pv_pickT (v := (.bool true)) rfl rfl rfl) ?_)
        refine rw_nil (hK67 _ _ ?_)
        refine hK65 _ _ ?_
        refine cw_cond rfl (fun h84 => ?_) (fun h84 => ?_)
        · -- then
          clear h84
          refine cw_seq fun K85 hK86 => ?_
          refine cw_region fun K87 hK88 => ?_
          refine rw_cons (op_pv (w0 rfl) rfl rfl (pv_move (v := (.slice A42 (srvV xs31 a21 b22 false).length c43)) rfl rfl) ?_)
          refine rw_cons (op_pv (w0 rfl) rfl rfl (pv_move (v := (.slice A55 (srvV xs31 a21 b22 false).length c56)) rfl rfl) ?_)
          refine rw_cons (op_call (w0 rfl) rfl rfl (rc_call C25 rfl rfl) (sameInts_same _ _ _ _ _ _ (srvV xs31 a21 b22 false) _ (hO44.rs (fun _ => rfl)) (hO57.rs (fun _ => rfl)) (by omega)) ?_)
          rintro _ w89 ⟨rfl, hch90⟩
          have hsz91 := hch90.size
          replace hR0 := hR0.ch0 hch90
          replace hO32 := hO32.ch0 hch90
          replace hO44 := hO44.ch0 hch90
          replace hO57 := hO57.ch0 hch90
          replace hc := hc.step0 hch90
          refine rw_cons (op_pv (w0 rfl) rfl rfl (pv_assign (v := (.bool true)) rfl rfl) ?_)
          refine rw_nil (hK88 _ _ ?_)
          refine hK86 _ _ ?_
          refine cw_ret ?_
          refine fin1 rfl ?_
          exact ⟨rfl, hc⟩
        · -- else
          cases h84
      · -- no
        replace hb83 := of_decide_eq_false hb83
        refine rw_cons (op_pv (w1y rfl rfl rfl rfl) rfl rfl (pv_move (v := (.int .i64 b22)) rfl rfl) ?_)
        refine rw_cons (op_pv (w1y rfl rfl rfl rfl) rfl rfl (pv_gtr rfl rfl rfl) ?_)
        refine rw_cons (op_pv (w0 rfl) rfl rfl (pv_pickF (v := (.bool (decide (9999 < b22)))) rfl rfl rfl) ?_)
        refine rw_cons (op_pv (w0 rfl) rfl rfl (pv_move (v := (.bool (decide (9999 < b22)))) rfl rfl) ?_)
        refine rw_split 44 rfl (fun hb92 => ?_) (fun hb92 => ?_)
        · -- yes
          replace hb92 := of_decide_eq_true hb92
          refine rw_cons (op_pass (w1n2 rfl rfl rfl rfl) rfl rfl ?_)
          refine rw_cons (op_pass (w1n2 rfl rfl rfl rfl) rfl rfl ?_)
          refine rw_cons (op_pv (w0 rfl) rfl rfl (pv_pickT (v := (.bool true)) rfl rfl rfl) ?_)
          refine rw_cons (op_pv (w0 rfl) rfl rfl (pv_move (v := (.bool true)) rfl rfl) ?_)
          refine rw_cons (op_pass (w1n2 rfl rfl rfl rfl) rfl rfl ?_)
          refine rw_cons (op_pass (w1n2 rfl rfl rfl rfl) rfl rfl ?_)
          refine rw_cons (op_pv (w0 rfl) rfl rfl (pv_pickT (v := (.bool true)) rfl rfl rfl) ?_)
          refine rw_nil (hK67 _ _ ?_)
          refine hK65 _ _ ?_
          refine cw_cond rfl (fun h93 => ?_) (fun h93 => ?_)
          · -- then
            clear h93
            refine cw_seq fun K94 hK95 => ?_
            refine cw_region fun K96 hK97 => ?_
            refine rw_cons (op_pv (w0 rfl) rfl rfl (pv_move (v := (.slice A42 (srvV xs31 a21 b22 false).length c43)) rfl rfl) ?_)
            refine rw_cons (op_pv (w0 rfl) rfl rfl (pv_move (v := (.slice A55 (srvV xs31 a21 b22 false).length c56)) rfl rfl) ?_)
            refine rw_cons (op_call (w0 rfl) rfl rfl (rc_call C25 rfl rfl) (sameInts_same _ _ _ _ _ _ (srvV xs31 a21 b22 false) _ (hO44.rs (fun _ => rfl)) (hO57.rs (fun _ => rfl)) (by omega)) ?_)
            rintro _ w98 ⟨rfl, hch99⟩
            have hsz100 := hch99.size
            replace hR0 := hR0.ch0 hch99
            replace hO32 := hO32.ch0 hch99
            replace hO44 := hO44.ch0 hch99
            replace hO57 := hO57.ch0 hch99
            replace hc := hc.step0 hch99
            refine rw_cons (op_pv (w0 rfl) rfl rfl (pv_assign (v := (.bool true)) rfl rfl) ?_)
            refine rw_nil (hK97 _ _ ?_)
            refine hK95 _ _ ?_
            refine cw_ret ?_
            refine fin1 rfl ?_
            exact ⟨rfl, hc⟩
          · -- else
            cases h93
        · -- no
          replace hb92 := of_decide_eq_false hb92
          refine rw_cons (op_pv (w1y rfl rfl rfl rfl) rfl rfl (pv_move (v := (.int .i64 a21)) rfl rfl) ?_)
          refine rw_cons (op_pv (w1y rfl rfl rfl rfl) rfl rfl (pv_lss rfl rfl rfl) ?_)
          refine rw_cons (op_pv (w0 rfl) rfl rfl (pv_pickF (v := (.bool (decide (a21 < 0)))) rfl rfl rfl) ?_)
          refine rw_cons (op_pv (w0 rfl) rfl rfl (pv_move (v := (.bool (decide (a21 < 0)))) rfl rfl) ?_)
          refine rw_split 48 rfl (fun hb101 => ?_) (fun hb101 => ?_)
          · -- yes
            replace hb101 := of_decide_eq_true hb101
            refine rw_cons (op_pass (w1n2 rfl rfl rfl rfl) rfl rfl ?_)
            refine rw_cons (op_pass (w1n2 rfl rfl rfl rfl) rfl rfl ?_)
            refine rw_cons (op_pv (w0 rfl) rfl rfl (pv_pickT (v := (.bool true)) rfl rfl rfl) ?_)
            refine rw_nil (hK67 _ _ ?_)
            refine hK65 _ _ ?_
            refine cw_cond rfl (fun h102 => ?_) (fun h102 => ?_)
            · -- then
              clear h102
              refine cw_seq fun K103 hK104 => ?_
              refine cw_region fun K105 hK106 => ?_
              refine rw_cons (op_pv (w0 rfl) rfl rfl (pv_move (v := (.slice A42 (srvV xs31 a21 b22 false).length c43)) rfl rfl) ?_)
              refine rw_cons (op_pv (w0 rfl) rfl rfl (pv_move (v := (.slice A55 (srvV xs31 a21 b22 false).length c56)) rfl rfl) ?_)
              refine rw_cons (op_call (w0 rfl) rfl rfl (rc_call C25 rfl rfl) (sameInts_same _ _ _ _ _ _ (srvV xs31 a21 b22 false) _ (hO44.rs (fun _ => rfl)) (hO57.rs (fun _ => rfl)) (by omega)) ?_)
              rintro _ w107 ⟨rfl, hch108⟩
              have hsz109 := hch108.size
              replace hR0 := hR0.ch0 hch108
              replace hO32 := hO32.ch0 hch108
              replace hO44 := hO44.ch0 hch108
              replace hO57 := hO57.ch0 hch108
              replace hc := hc.step0 hch108
              refine rw_cons (op_pv (w0 rfl) rfl rfl (pv_assign (v := (.bool true)) rfl rfl) ?_)
              refine rw_nil (hK106 _ _ ?_)
              refine hK104 _ _ ?_
              refine cw_ret ?_
              refine fin1 rfl ?_
              exact ⟨rfl, hc⟩
            · -- else
              cases h102
          · -- no
            replace hb101 := of_decide_eq_false hb101
            refine rw_cons (op_pv (w1y rfl rfl rfl rfl) rfl rfl (pv_move (v := (.int .i64 a21)) rfl rfl) ?_)
            refine rw_cons (op_pv (w1y rfl rfl rfl rfl) rfl rfl (pv_gtr rfl rfl rfl) ?_)
            refine rw_cons (op_pv (w0 rfl) rfl rfl (pv_pickF (v := (.bool (decide (9999 < a21)))) rfl rfl rfl) ?_)
            refine rw_nil (hK67 _ _ ?_)
            refine hK65 _ _ ?_
            refine cw_cond rfl (fun h110 => ?_) (fun h110 => ?_)
            · -- then
              replace h110 := of_decide_eq_true h110
              refine cw_seq fun K111 hK112 => ?_
              refine cw_region fun K113 hK114 => ?_
              refine rw_cons (op_pv (w0 rfl) rfl rfl (pv_move (v := (.slice A42 (srvV xs31 a21 b22 false).length c43)) rfl rfl) ?_)
              refine rw_cons (op_pv (w0 rfl) rfl rfl (pv_move (v := (.slice A55 (srvV xs31 a21 b22 false).length c56)) rfl rfl) ?_)
              refine rw_cons (op_call (w0 rfl) rfl rfl (rc_call C25 rfl rfl) (sameInts_same _ _ _ _ _ _ (srvV xs31 a21 b22 false) _ (hO44.rs (fun _ => rfl)) (hO57.rs (fun _ => rfl)) (by omega)) ?_)
              rintro _ w115 ⟨rfl, hch116⟩
              have hsz117 := hch116.size
              replace hR0 := hR0.ch0 hch116
              replace hO32 := hO32.ch0 hch116
              replace hO44 := hO44.ch0 hch116
              replace hO57 := hO57.ch0 hch116
              replace hc := hc.step0 hch116
              refine rw_cons (op_pv (w0 rfl) rfl rfl (pv_assign (v := (.bool true)) rfl rfl) ?_)
              refine rw_nil (hK114 _ _ ?_)
              refine hK112 _ _ ?_
              refine cw_ret ?_
              refine fin1 rfl ?_
              exact ⟨rfl, hc⟩
            · -- else
              replace h110 := of_decide_eq_false h110
              refine cw_skip ?_
              refine hK63 _ _ ?_
              refine cw_seq fun K118 hK119 => ?_
              have hok : SrvOK xs31 a21 b22 := ⟨by assumption, by omega, by omega⟩
              refine cw_region fun K120 hK121 => ?_
              refine rw_cons (op_pv (w0 rfl) rfl rfl (pv_move (v := (.slice A29 xs31.length c30)) rfl rfl) ?_)
              refine rw_cons (op_pv (w0 rfl) rfl rfl (pv_move (v := (.int .i64 a21)) rfl rfl) ?_)
              refine rw_cons (op_pv (w0 rfl) rfl rfl (pv_move (v := (.int .i64 b22)) rfl rfl) ?_)
              refine rw_cons (op_call (w0 rfl) rfl rfl (rc_call C23 rfl rfl) (BeatsAlive_i _ xs31.length _ xs31 a21 b22 _ (hO32.rs (fun _ => rfl)) (by omega)) ?_)
              rintro _ w122 ⟨A124, c125, rfl, hO126, hch123⟩
              have hsz127 := hch123.size
              replace hR0 := hR0.ch0 hch123
              replace hO32 := hO32.ch0 hch123
              replace hO44 := hO44.ch0 hch123
              replace hO57 := hO57.ch0 hch123
              replace hc := hc.step0 hch123
              have hub128 := hO126.lt
              have hcap129 : (srvV xs31 a21 b22 true).length ≤ c125 := by obtain ⟨_, _, hv, h1, _⟩ := hO126.form; injection hv with _ _ h3; omega
              have hnt130 := srvV_le xs31 a21 b22 true
              refine rw_cons (op_pv (w0 rfl) rfl rfl (pv_assign (v := (.slice A124 (srvV xs31 a21 b22 true).length c125)) rfl rfl) ?_)
              refine rw_nil (hK121 _ _ ?_)
              refine hK119 _ _ ?_
              refine cw_seq fun K131 hK132 => ?_
              refine cw_seq fun K133 hK134 => ?_
              refine cw_region fun K135 hK136 => ?_
              refine rw_cons (op_pv (w0 rfl) rfl rfl (pv_assign (v := (.int .i64 0)) rfl rfl) ?_)
              refine rw_nil (hK136 _ _ ?_)
              refine hK134 _ _ ?_
              refine cw_block ?_
              refine cw_loop (σ := Nat) (fun k => [(9, (.int .i64 (k : Int))), (3, (.slice A29 xs31.length c30)), (6, (.slice A42 (srvV xs31 a21 b22 false).length c43)), (8, (.slice A124 (srvV xs31 a21 b22 true).length c125))]) (fun k W => (k ≤ xs31.length) ∧ RS encU 1 W w.heap.size A0 n0 xs0 ∧ Own encB 2 W w.heap.size 39 (.slice A29 xs31.length c30) xs31 ∧ Own encI 1 W w20.heap.size 3 (.slice A42 (srvV xs31 a21 b22 false).length c43) (srvV xs31 a21 b22 false) ∧ Own encI 1 W w40.heap.size 3 (.slice A55 (srvV xs31 a21 b22 false).length c56) (srvV xs31 a21 b22 false) ∧ Own encI 1 W w71.heap.size 3 (.slice A124 (srvV xs31 a21 b22 true).length c125) (srvV xs31 a21 b22 true) ∧ Ch [] w W ∧ w20.heap.size ≤ W.heap.size ∧ w40.heap.size ≤ W.heap.size ∧ w71.heap.size ≤ W.heap.size) (fun k => xs31.length - k) 0 ?_ ?_ ?_
              · exact ⟨rfl, rfl, rfl, rfl, trivial⟩
              · refine ⟨Nat.zero_le _, hR0, hO32, hO44, hO57, hO126, hc, (by omega), (by omega), (by omega)⟩
              · rintro k J144 w137 ⟨hk, hR0, hO32, hO44, hO57, hO126, hc, hmono138, hmono139, hmono140⟩ K141 hK142
                have hsz146 := hc.size
                have hub147 := hO32.lt
                have hub148 := hO44.lt
                have hub149 := hO57.lt
                have hub150 := hO126.lt
                refine cw_seq fun K151 hK152 => ?_
                refine cw_seq fun K153 hK154 => ?_
                refine cw_region fun K155 hK156 => ?_
                refine rw_cons (op_pv (w0 rfl) rfl rfl (pv_move (v := (.int .i64 (k : Int))) rfl rfl) ?_)
                refine rw_cons (op_pv (w0 rfl) rfl rfl (pv_move (v := (.slice A29 xs31.length c30)) rfl rfl) ?_)
                refine rw_cons (op_pv (w0 rfl) rfl rfl (pv_len Try.underlying23 rfl rfl) ?_)
                refine rw_cons (op_pv (w0 rfl) rfl rfl (pv_lss rfl rfl rfl) ?_)
                refine rw_nil (hK156 _ _ ?_)
                refine hK154 _ _ ?_
                refine cw_cond rfl (fun h157 => ?_) (fun h157 => ?_)
                · -- then
                  replace h157 := of_decide_eq_true h157
                  refine cw_skip ?_
                  refine hK152 _ _ ?_
                  refine cw_seq fun K158 hK159 => ?_
                  refine cw_block ?_
                  refine cw_seq fun K160 hK161 => ?_
                  refine cw_drawn (fun u => Ch [] w137 u) (.free 0 (.free 1 (.free 2 (.free 3 (.free 4 (.free 5 (.free 7 (.free 8 (.free 9 (.free 10 (.free 11 (.free 12 (.one 6 true (.one 13 true (.free 14 (.done)))))))))))))))) (by kernel_rfl) (by kernel_rfl) (Ch.refl _ _).drew fun K165 hK166 => ?_
                  obtain ⟨w162, hw_, hch163, hsz164⟩ : ∃ w1 : World, w1 = w137.drew ∧ Ch [] w137 w1 ∧ w1.heap.size = w137.heap.size := ⟨_, rfl, (Ch.refl _ _).drew, rfl⟩
                  rw [← hw_]; clear hw_
                  have hr167 : Ch [] w137 w162 := hch163.sub (fun s hs => by cases hs)
                  have hR0_r := hR0
                  have hO32_r := hO32
                  have hO44_r := hO44
                  have hO57_r := hO57
                  have hO126_r := hO126
                  have hsz168 := hch163.size
                  replace hR0 := hR0.ch0 hch163
                  replace hO32 := hO32.ch0 hch163
                  replace hO44 := hO44.ch0 hch163
                  replace hO57 := hO57.ch0 hch163
                  replace hO126 := hO126.ch0 hch163
                  replace hc := hc.step0 hch163
                  refine tw_free rfl (w0 rfl) rfl rfl (fun u hu => (pv_move (v := (.slice A42 (srvV xs31 a21 b22 false).length c43)) rfl rfl : PV _ _ _ _) u) ?_
                  refine tw_free rfl (w0 rfl) rfl rfl (fun u hu => (pv_move (v := (.slice A29 xs31.length c30)) rfl rfl : PV _ _ _ _) u) ?_
                  refine tw_free rfl (w0 rfl) rfl rfl (fun u hu => (pv_move (v := (.int .i64 (k : Int))) rfl rfl : PV _ _ _ _) u) ?_
                  refine tw_free rfl (w0 rfl) rfl rfl (fun u hu => (pv_idx Try.underlying23 T39 rfl rfl rfl ((hO32.rs (fun _ => rfl)).some (k := k) (by omega)) (by omega) (by omega) : PV _ _ _ _) u) ?_
                  refine tw_free rfl (w0 rfl) rfl rfl (fun u hu => (pv_fld F39_0 rfl rfl : PV _ _ _ _) u) ?_
                  refine tw_free rfl (w0 rfl) rfl rfl (fun u hu => lv_load T3 rfl rfl (((hO32_r.ch0 hu).rs (fun _ => rfl)).cellE (k := k) (j := 0) (by omega) rfl)) ?_
                  refine tw_free rfl (w0 rfl) rfl rfl (fun u hu => (pv_move (v := (.slice A124 (srvV xs31 a21 b22 true).length c125)) rfl rfl : PV _ _ _ _) u) ?_
                  refine tw_free rfl (w0 rfl) rfl rfl (fun u hu => (pv_move (v := (.slice A29 xs31.length c30)) rfl rfl : PV _ _ _ _) u) ?_
                  refine tw_free rfl (w0 rfl) rfl rfl (fun u hu => (pv_move (v := (.int .i64 (k : Int))) rfl rfl : PV _ _ _ _) u) ?_
                  refine tw_free rfl (w0 rfl) rfl rfl (fun u hu => (pv_idx Try.underlying23 T39 rfl rfl rfl ((hO32.rs (fun _ => rfl)).some (k := k) (by omega)) (by omega) (by omega) : PV _ _ _ _) u) ?_
                  refine tw_free rfl (w0 rfl) rfl rfl (fun u hu => (pv_fld F39_0 rfl rfl : PV _ _ _ _) u) ?_
                  refine tw_free rfl (w0 rfl) rfl rfl (fun u hu => lv_load T3 rfl rfl (((hO32_r.ch0 hu).rs (fun _ => rfl)).cellE (k := k) (j := 0) (by omega) rfl)) ?_
                  refine tw_one rfl (op_call (w0 rfl) rfl rfl (rc_call C26 rfl rfl) (hasInt_ok _ (srvV xs31 a21 b22 false).length _ (srvV xs31 a21 b22 false) (el xs31 k).s _ (hO44.rs (fun _ => rfl)) (by omega)) ?_)
                  rintro _ w169 ⟨rfl, hch170⟩
                  have hsz171 := hch170.size
                  replace hR0 := hR0.ch0 hch170
                  replace hO32 := hO32.ch0 hch170
                  replace hO44 := hO44.ch0 hch170
                  replace hO57 := hO57.ch0 hch170
                  replace hO126 := hO126.ch0 hch170
                  replace hc := hc.step0 hch170
                  replace hr167 := hr167.step0 hch170
                  refine ⟨fun _ => hr167, ?_⟩
                  refine tw_one rfl (op_call (w0 rfl) rfl rfl (rc_call C26 rfl rfl) (hasInt_ok _ (srvV xs31 a21 b22 true).length _ (srvV xs31 a21 b22 true) (el xs31 k).s _ (hO126.rs (fun _ => rfl)) (by omega)) ?_)
                  rintro _ w172 ⟨rfl, hch173⟩
                  have hsz174 := hch173.size
                  replace hR0 := hR0.ch0 hch173
                  replace hO32 := hO32.ch0 hch173
                  replace hO44 := hO44.ch0 hch173
                  replace hO57 := hO57.ch0 hch173
                  replace hO126 := hO126.ch0 hch173
                  replace hc := hc.step0 hch173
                  replace hr167 := hr167.step0 hch173
                  refine ⟨fun _ => hr167, ?_⟩
                  refine tw_free rfl (w0 rfl) rfl rfl (fun u hu => (pv_eqlB Try.underlying4 rfl rfl rfl : PV _ _ _ _) u) ?_
                  clear hO126_r
                  clear hO32_r
                  clear hO44_r
                  clear hO57_r
                  clear hR0_r
                  refine tw_done (hK166 _ _ ?_)
                  refine hK161 _ _ ?_
                  refine cw_cond rfl (fun h175 => ?_) (fun h175 => ?_)
                  · -- then
                    replace h175 := eq_of_beq h175
                    refine cw_seq fun K176 hK177 => ?_
                    refine cw_region fun K178 hK179 => ?_
                    refine rw_cons (op_pv (w0 rfl) rfl rfl (pv_assign (v := (.bool false)) rfl rfl) ?_)
                    refine rw_nil (hK179 _ _ ?_)
                    refine hK177 _ _ ?_
                    refine cw_ret ?_
                    refine fin1 rfl ?_
                    have hiff := alive_dead hok (i := k) (by omega)
                    have heq := (by assumption : dec _ = dec _)
                    exfalso
                    by_cases h9 : (el xs31 k).s ∈ srvV xs31 a21 b22 false
                    · rw [dec_yes h9] at heq; exact (hiff.1 (dec_t heq.symm)) h9
                    · rw [dec_no h9] at heq; exact (dec_f heq.symm) (hiff.2 h9)
                  · -- else
                    replace h175 := ne_of_beq_false h175
                    refine cw_skip ?_
                    refine hK159 _ _ ?_
                    refine cw_region fun K180 hK181 => ?_
                    refine rw_cons (op_pv (w0 rfl) rfl rfl (pv_move (v := (.int .i64 (k : Int))) rfl rfl) ?_)
                    refine rw_cons (op_pv (w0 rfl) rfl rfl (pv_add rfl rfl rfl (by omega) (by omega)) ?_)
                    refine rw_cons (op_pv (w0 rfl) rfl rfl (pv_assign (v := (.int .i64 ((k : Int) + 1))) rfl rfl) ?_)
                    refine rw_nil (hK181 _ _ ?_)
                    refine hK142 _ _ (k + 1) ⟨(iv (by omega)), rfl, rfl, rfl, trivial⟩ ⟨?_, hR0, hO32, hO44, hO57, hO126, hc, (by omega), (by omega), (by omega)⟩ ?_
                    · omega
                    · (first | omega | (simp only []; omega))
                · -- else
                  replace h157 := of_decide_eq_false h157
                  refine cw_exit ?_
                  refine hK132 _ _ ?_
                  refine cw_seq fun K182 hK183 => ?_
                  refine cw_region fun K184 hK185 => ?_
                  refine rw_cons (op_pv (w0 rfl) rfl rfl (pv_move (v := (.slice A42 (srvV xs31 a21 b22 false).length c43)) rfl rfl) ?_)
                  refine rw_cons (op_pv (w0 rfl) rfl rfl (pv_len Try.underlying34 rfl rfl) ?_)
                  refine rw_cons (op_pv (w0 rfl) rfl rfl (pv_move (v := (.slice A124 (srvV xs31 a21 b22 true).length c125)) rfl rfl) ?_)
                  refine rw_cons (op_pv (w0 rfl) rfl rfl (pv_len Try.underlying34 rfl rfl) ?_)
                  refine rw_cons (op_pv (w0 rfl) rfl rfl (pv_add rfl rfl rfl (by omega) (by omega)) ?_)
                  refine rw_cons (op_pv (w0 rfl) rfl rfl (pv_move (v := (.slice A29 xs31.length c30)) rfl rfl) ?_)
                  refine rw_cons (op_pv (w0 rfl) rfl rfl (pv_len Try.underlying23 rfl rfl) ?_)
                  refine rw_cons (op_pv (w0 rfl) rfl rfl (pv_eql rfl rfl rfl) ?_)
                  refine rw_cons (op_pv (w0 rfl) rfl rfl (pv_assign (v := (.bool (decide ((((srvV xs31 a21 b22 false).length : Int) + ((srvV xs31 a21 b22 true).length : Int) : Int) = (xs31.length : Int))))) rfl rfl) ?_)
                  refine rw_nil (hK185 _ _ ?_)
                  refine hK183 _ _ ?_
                  refine cw_ret ?_
                  refine fin1 rfl ?_
                  have hbl := both_len hok
                  exact ⟨congrArg Value.bool (decide_eq_true (by omega)), hc⟩
end Go.Proofs.Ytnkjljjcionfiaa

/-
  The walk of laws.FnExactPlanLoad, written by program: each line names the law of one operation. Conditions: those of the theorem.
-/
import Derived.Test.YtajdoloefkoekaaProg
import Derived.Test.YtajdoloefkoekaaFlawsszMoveS
import Derived.Test.YtajdoloefkoekaaFlawstoMoveS
import Derived.Test.YtajdoloefkoekaaFlawseqMoveS
import Derived.Test.YtajdoloefkoekaaFimplPlanLoad
import Derived.Test.YtajdoloefkoekaaFspecPlanLoad
import Derived.KernelRfl
namespace Go.Proofs.Ytajdoloefkoekaa
open Go Go.RowKit
set_option linter.unusedVariables false
set_option linter.unusedSimpArgs false
namespace FnExactPlanLoad_okF
theorem C6 : Callable Try.prog 6 := ⟨_, Try.func6, by kernel_rfl, by kernel_rfl⟩
theorem C7 : Callable Try.prog 7 := ⟨_, Try.func7, by kernel_rfl, by kernel_rfl⟩
theorem C8 : Callable Try.prog 8 := ⟨_, Try.func8, by kernel_rfl, by kernel_rfl⟩
theorem C9 : Callable Try.prog 9 := ⟨_, Try.func9, by kernel_rfl, by kernel_rfl⟩
theorem C10 : Callable Try.prog 10 := ⟨_, Try.func10, by kernel_rfl, by kernel_rfl⟩
end FnExactPlanLoad_okF
open FnExactPlanLoad_okF in
set_option maxHeartbeats 4000000 in
theorem FnExactPlanLoad_ok (A0 : Option Addr) (n0 c0 : Nat) (xs0 : List Mv) (a1 : Int) (w : World) (hR0 : RS encM 3 w w.heap.size A0 n0 xs0) (hn0 : n0 ≤ c0) (hm0 : c0 ≤ maxLen) (ha1 : -9223372036854775808 ≤ a1) (hb1 : a1 ≤ 9223372036854775807) :
    Fn Try.prog 4 [(.slice A0 n0 c0), (.int .i64 a1)] w fun v w' => v = .bool true ∧ Ch [] w w' := by
  have hlen0 := hR0.len
  refine fn_of (n := 31) Try.func4 rfl rfl rfl rfl ?_
  have hc : Ch [] w w := Ch.refl _ _
  refine cw_seq fun K1 hK2 => ?_
  refine cw_region fun K3 hK4 => ?_
  refine rw_cons (op_pv (w0 rfl) rfl rfl (pv_assign (v := (.bool false)) rfl rfl) ?_)
  refine rw_nil (hK4 _ _ ?_)
  refine hK2 _ _ ?_
  refine cw_seq fun K5 hK6 => ?_
  refine cw_region fun K7 hK8 => ?_
  refine rw_cons (op_pv (w0 rfl) rfl rfl (pv_assign (v := (.int .i64 1048576)) rfl rfl) ?_)
  refine rw_nil (hK8 _ _ ?_)
  refine hK6 _ _ ?_
  refine cw_seq fun K9 hK10 => ?_
  refine cw_region fun K11 hK12 => ?_
  refine rw_cons (op_pv (w0 rfl) rfl rfl (pv_move (v := (.slice A0 n0 c0)) rfl rfl) ?_)
  refine rw_cons (op_pv (w0 rfl) rfl rfl (pv_move (v := (.int .i64 1048576)) rfl rfl) ?_)
  refine rw_cons (op_call (w0 rfl) rfl rfl (rc_call C8 rfl rfl) (szMoveS_ok _ n0 _ _ 1048576 _ (hR0.more (by omega)) (by omega) (by omega) (by omega)) ?_)
  rintro _ w14 ⟨r13, rfl, hsz15, hsz16, hch17⟩
  have hsz18 := hch17.size
  replace hR0 := hR0.ch0 hch17
  replace hc := hc.step0 hch17
  refine rw_cons (op_pv (w0 rfl) rfl rfl (pv_assign (v := (.int .i64 r13)) rfl rfl) ?_)
  refine rw_nil (hK12 _ _ ?_)
  refine hK10 _ _ ?_
  refine cw_seq fun K19 hK20 => ?_
  refine cw_seq fun K21 hK22 => ?_
  refine cw_region fun K23 hK24 => ?_
  refine rw_cons (op_pv (w0 rfl) rfl rfl (pv_move (v := (.int .i64 r13)) rfl rfl) ?_)
  refine rw_cons (op_pv (w0 rfl) rfl rfl (pv_lss rfl rfl rfl) ?_)
  refine rw_nil (hK24 _ _ ?_)
  refine hK22 _ _ ?_
  refine cw_cond rfl (fun h25 => ?_) (fun h25 => ?_)
  · -- then
    replace h25 := of_decide_eq_true h25
    refine cw_seq fun K26 hK27 => ?_
    refine cw_region fun K28 hK29 => ?_
    refine rw_cons (op_pv (w0 rfl) rfl rfl (pv_assign (v := (.bool true)) rfl rfl) ?_)
    refine rw_nil (hK29 _ _ ?_)
    refine hK27 _ _ ?_
    refine cw_ret ?_
    refine fin1 rfl ?_
    first
      | exact ⟨rfl, hc⟩
      | (exfalso; omega)
      | exact ⟨congrArg Value.bool (decide_eq_true (by omega)), hc⟩
      | exact absurd rfl ‹_ ≠ _›
      | (exfalso; simp_all; done)
  · -- else
    replace h25 := of_decide_eq_false h25
    refine cw_skip ?_
    refine hK20 _ _ ?_
    refine cw_seq fun K30 hK31 => ?_
    refine cw_region fun K32 hK33 => ?_
    refine rw_cons (op_pv (w0 rfl) rfl rfl (pv_move (v := (.slice A0 n0 c0)) rfl rfl) ?_)
    refine rw_cons (op_call (w0 rfl) rfl rfl (rc_call C9 rfl rfl) (toMoveS_ok _ _ _ _ _ (hR0.more (by omega)) (by omega)) ?_)
    rintro _ w34 ⟨v35, rfl, hO36, hch37⟩
    have hsz38 := hch37.size
    replace hR0 := hR0.ch0 hch37
    replace hc := hc.step0 hch37
    obtain ⟨A39, c40, hv41, hle42, hmx43⟩ := hO36.form; subst hv41
    have hub44 := hO36.lt
    refine rw_cons (op_pv (w0 rfl) rfl rfl (pv_move (v := (.int .i64 a1)) rfl rfl) ?_)
    refine rw_cons (op_call (w0 rfl) rfl rfl (rc_call C7 rfl rfl) (PlanLoad_s _ xs0.length _ xs0 a1 _ (hO36.rs (fun _ => rfl)) (by omega)) ?_)
    rintro _ w45 ⟨rfl, hch46⟩
    have hsz47 := hch46.size
    replace hR0 := hR0.ch0 hch46
    replace hO36 := hO36.ch0 hch46
    replace hc := hc.step0 hch46
    refine rw_cons (op_pv (w0 rfl) rfl rfl (pv_assign (v := (.int .i64 (mvLoad xs0 a1 : Int))) rfl rfl) ?_)
    refine rw_nil (hK33 _ _ ?_)
    refine hK31 _ _ ?_
    refine cw_seq fun K48 hK49 => ?_
    refine cw_region fun K50 hK51 => ?_
    refine rw_cons (op_pv (w0 rfl) rfl rfl (pv_move (v := (.slice A0 n0 c0)) rfl rfl) ?_)
    refine rw_cons (op_call (w0 rfl) rfl rfl (rc_call C9 rfl rfl) (toMoveS_ok _ _ _ _ _ (hR0.more (by omega)) (by omega)) ?_)
    rintro _ w52 ⟨v53, rfl, hO54, hch55⟩
    have hsz56 := hch55.size
    replace hR0 := hR0.ch0 hch55
    replace hO36 := hO36.ch0 hch55
    replace hc := hc.step0 hch55
    obtain ⟨A57, c58, hv59, hle60, hmx61⟩ := hO54.form; subst hv59
    have hub62 := hO54.lt
    refine rw_cons (op_pv (w0 rfl) rfl rfl (pv_assign (v := (.slice A57 xs0.length c58)) rfl rfl) ?_)
    refine rw_nil (hK51 _ _ ?_)
    refine hK49 _ _ ?_
    refine cw_seq fun K63 hK64 => ?_
    refine cw_region fun K65 hK66 => ?_
    refine rw_cons (op_pv (w0 rfl) rfl rfl (pv_move (v := (.slice A57 xs0.length c58)) rfl rfl) ?_)
    refine rw_cons (op_pv (w0 rfl) rfl rfl (pv_move (v := (.int .i64 a1)) rfl rfl) ?_)
    refine rw_cons (op_call (w0 rfl) rfl rfl (rc_call C6 rfl rfl) (PlanLoad_i _ xs0.length _ xs0 a1 _ (hO54.rs (fun _ => rfl)) (by omega)) ?_)
    rintro _ w67 ⟨rfl, hch68⟩
    have hsz69 := hch68.size
    replace hR0 := hR0.ch0 hch68
    replace hO36 := hO36.ch0 hch68
    replace hO54 := hO54.ch0 hch68
    replace hc := hc.step0 hch68
    refine rw_cons (op_pv (w0 rfl) rfl rfl (pv_assign (v := (.int .i64 (mvLoad xs0 a1 : Int))) rfl rfl) ?_)
    refine rw_nil (hK66 _ _ ?_)
    refine hK64 _ _ ?_
    refine cw_seq fun K70 hK71 => ?_
    refine cw_seq fun K72 hK73 => ?_
    refine cw_region fun K74 hK75 => ?_
    refine rw_cons (op_pv (w0 rfl) rfl rfl (pv_move (v := (.int .i64 (mvLoad xs0 a1 : Int))) rfl rfl) ?_)
    refine rw_cons (op_pv (w0 rfl) rfl rfl (pv_move (v := (.int .i64 (mvLoad xs0 a1 : Int))) rfl rfl) ?_)
    refine rw_cons (op_pv (w0 rfl) rfl rfl (pv_nes rfl rfl rfl) ?_)
    refine rw_nil (hK75 _ _ ?_)
    refine hK73 _ _ ?_
    refine cw_cond rfl (fun h76 => ?_) (fun h76 => ?_)
    · -- then
      cases h76
    · -- else
      clear h76
      refine cw_skip ?_
      refine hK71 _ _ ?_
      refine cw_seq fun K77 hK78 => ?_
      refine cw_seq fun K79 hK80 => ?_
      refine cw_region fun K81 hK82 => ?_
      refine rw_cons (op_pv (w0 rfl) rfl rfl (pv_move (v := (.slice A57 xs0.length c58)) rfl rfl) ?_)
      refine rw_cons (op_pv (w0 rfl) rfl rfl (pv_move (v := (.slice A0 n0 c0)) rfl rfl) ?_)
      refine rw_cons (op_call (w0 rfl) rfl rfl (rc_call C9 rfl rfl) (toMoveS_ok _ _ _ _ _ (hR0.more (by omega)) (by omega)) ?_)
      rintro _ w83 ⟨v84, rfl, hO85, hch86⟩
      have hsz87 := hch86.size
      replace hR0 := hR0.ch0 hch86
      replace hO36 := hO36.ch0 hch86
      replace hO54 := hO54.ch0 hch86
      replace hc := hc.step0 hch86
      obtain ⟨A88, c89, hv90, hle91, hmx92⟩ := hO85.form; subst hv90
      have hub93 := hO85.lt
      refine rw_cons (op_call (w0 rfl) rfl rfl (rc_call C10 rfl rfl) (eqMoveS_same _ _ _ _ _ _ xs0 _ (hO54.rs (fun _ => rfl)) (hO85.rs (fun _ => rfl)) (by omega)) ?_)
      rintro _ w94 ⟨rfl, hch95⟩
      have hsz96 := hch95.size
      replace hR0 := hR0.ch0 hch95
      replace hO36 := hO36.ch0 hch95
      replace hO54 := hO54.ch0 hch95
      replace hO85 := hO85.ch0 hch95
      replace hc := hc.step0 hch95
      refine rw_cons (op_pv (w0 rfl) rfl rfl (pv_not rfl rfl) ?_)
      refine rw_nil (hK82 _ _ ?_)
      refine hK80 _ _ ?_
      refine cw_cond rfl (fun h97 => ?_) (fun h97 => ?_)
      · -- then
        cases h97
      · -- else
        clear h97
        refine cw_skip ?_
        refine hK78 _ _ ?_
        refine cw_seq fun K98 hK99 => ?_
        refine cw_region fun K100 hK101 => ?_
        refine rw_cons (op_pv (w0 rfl) rfl rfl (pv_assign (v := (.bool true)) rfl rfl) ?_)
        refine rw_nil (hK101 _ _ ?_)
        refine hK99 _ _ ?_
        refine cw_ret ?_
        refine fin1 rfl ?_
        first
          | exact ⟨rfl, hc⟩
          | (exfalso; omega)
          | exact ⟨congrArg Value.bool (decide_eq_true (by omega)), hc⟩
          | exact absurd rfl ‹_ ≠ _›
          | (exfalso; simp_all; done)
end Go.Proofs.Ytajdoloefkoekaa

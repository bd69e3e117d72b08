/-
  The walk of laws.FnExactPlaceScore, written by program: each line names the law of one operation. Conditions: those of the theorem.
-/
import Derived.Test.YtielahdnccocdaaProg
import Derived.Test.YtielahdnccocdaaFimplPlaceScore
import Derived.Test.YtielahdnccocdaaFspecPlaceScore
import Derived.KernelRfl
namespace Go.Proofs.Ytielahdnccocdaa
open Go Go.RowKit
set_option linter.unusedVariables false
namespace FnExactPlaceScore_okF
theorem C13 : Callable Try.prog 13 := ⟨_, Try.func13, by kernel_rfl, by kernel_rfl⟩
theorem C14 : Callable Try.prog 14 := ⟨_, Try.func14, by kernel_rfl, by kernel_rfl⟩
end FnExactPlaceScore_okF
open FnExactPlaceScore_okF in
set_option maxHeartbeats 4000000 in
theorem FnExactPlaceScore_ok (a0 : Int) (a1 : Int) (w : World) (ha0 : -9223372036854775808 ≤ a0) (hb0 : a0 ≤ 9223372036854775807) (ha1 : -9223372036854775808 ≤ a1) (hb1 : a1 ≤ 9223372036854775807) :
    Fn Try.prog 3 [(.int .i64 a0), (.int .i64 a1)] w fun v w' => v = .bool true ∧ Ch [] w w' := by
  refine fn_of (n := 16) Try.func3 rfl rfl rfl rfl ?_
  have hc : Ch [] w w := Ch.refl _ _
  refine cw_seq fun K1 hK2 => ?_
  refine cw_region fun K3 hK4 => ?_
  refine rw_cons (op_pv (w0 rfl) rfl rfl (pv_assign rfl rfl) ?_)
  refine rw_nil (hK4 _ _ ?_)
  refine hK2 _ _ ?_
  refine cw_seq fun K5 hK6 => ?_
  refine cw_region fun K7 hK8 => ?_
  refine rw_cons (op_pv (w0 rfl) rfl rfl (pv_move rfl rfl) ?_)
  refine rw_cons (op_pv (w0 rfl) rfl rfl (pv_move rfl rfl) ?_)
  refine rw_cons (op_call (w0 rfl) rfl rfl (rc_call C13 rfl rfl) (PlaceScore_s a0 a1 _  ) ?_)
  rintro _ w9 ⟨rfl, hch10⟩
  have hsz11 := hch10.size
  replace hc := hc.step0 hch10
  have hsb12 := scoreOf_bd a0 a1
  refine rw_cons (op_pv (w0 rfl) rfl rfl (pv_assign rfl rfl) ?_)
  refine rw_nil (hK8 _ _ ?_)
  refine hK6 _ _ ?_
  refine cw_seq fun K13 hK14 => ?_
  refine cw_region fun K15 hK16 => ?_
  refine rw_cons (op_pv (w0 rfl) rfl rfl (pv_move rfl rfl) ?_)
  refine rw_cons (op_pv (w0 rfl) rfl rfl (pv_move rfl rfl) ?_)
  refine rw_cons (op_call (w0 rfl) rfl rfl (rc_call C14 rfl rfl) (PlaceScore_i a0 a1 _  ) ?_)
  rintro _ w17 ⟨rfl, hch18⟩
  have hsz19 := hch18.size
  replace hc := hc.step0 hch18
  have hsb20 := scoreOf_bd a0 a1
  refine rw_cons (op_pv (w0 rfl) rfl rfl (pv_assign rfl rfl) ?_)
  refine rw_nil (hK16 _ _ ?_)
  refine hK14 _ _ ?_
  refine cw_seq fun K21 hK22 => ?_
  refine cw_seq fun K23 hK24 => ?_
  refine cw_region fun K25 hK26 => ?_
  refine rw_cons (op_pv (w0 rfl) rfl rfl (pv_move rfl rfl) ?_)
  refine rw_cons (op_pv (w0 rfl) rfl rfl (pv_move rfl rfl) ?_)
  refine rw_cons (op_pv (w0 rfl) rfl rfl (pv_neq rfl rfl rfl) ?_)
  refine rw_nil (hK26 _ _ ?_)
  refine hK24 _ _ ?_
  refine cw_cond rfl (fun h27 => ?_) (fun h27 => ?_)
  · -- then
    replace h27 := of_decide_eq_true h27
    refine cw_seq fun K28 hK29 => ?_
    refine cw_region fun K30 hK31 => ?_
    refine rw_cons (op_pv (w0 rfl) rfl rfl (pv_assign rfl rfl) ?_)
    refine rw_nil (hK31 _ _ ?_)
    refine hK29 _ _ ?_
    refine cw_ret ?_
    refine fin1 rfl ?_
    first
      | exact ⟨rfl, hc⟩
      | (exfalso; omega)
      | exact ⟨congrArg Value.bool (decide_eq_true (by omega)), hc⟩
      | exact absurd rfl ‹_ ≠ _›
      | (exfalso; simp_all; done)
  · -- else
    replace h27 := of_decide_eq_false h27
    refine cw_skip ?_
    refine hK22 _ _ ?_
    refine cw_seq fun K32 hK33 => ?_
    refine cw_region fun K34 hK35 => ?_
    refine rw_cons (op_pv (w0 rfl) rfl rfl (pv_assign rfl rfl) ?_)
    refine rw_nil (hK35 _ _ ?_)
    refine hK33 _ _ ?_
    refine cw_ret ?_
    refine fin1 rfl ?_
    first
      | exact ⟨rfl, hc⟩
      | (exfalso; omega)
      | exact ⟨congrArg Value.bool (decide_eq_true (by omega)), hc⟩
      | exact absurd rfl ‹_ ≠ _›
      | (exfalso; simp_all; done)
end Go.Proofs.Ytielahdnccocdaa

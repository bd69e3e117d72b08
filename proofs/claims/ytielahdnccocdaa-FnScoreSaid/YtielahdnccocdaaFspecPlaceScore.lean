/-
  The walk of spec.PlaceScore, written by program: each line names the law of one operation. Conditions: those of the theorem.
-/
import Derived.Test.YtielahdnccocdaaProg
import Derived.Test.YtielahdnccocdaaPlaces
import Derived.Test.YtielahdnccocdaaFspecl6In
import Derived.Test.YtielahdnccocdaaFspecl22Score
import Derived.KernelRfl
namespace Go.Proofs.Ytielahdnccocdaa
open Go Go.RowKit
set_option linter.unusedVariables false
namespace PlaceScore_sF
theorem C28 : Callable Try.prog 28 := ⟨_, Try.func28, by kernel_rfl, by kernel_rfl⟩
theorem C29 : Callable Try.prog 29 := ⟨_, Try.func29, by kernel_rfl, by kernel_rfl⟩
end PlaceScore_sF
open PlaceScore_sF in
set_option maxHeartbeats 4000000 in
theorem PlaceScore_s (a b : Int) (w : World) :
    Fn Try.prog 13 [(.int .i64 a), (.int .i64 b)] w fun v w' => v = .int .i64 (scoreOf a b) ∧ Ch [] w w' := by
  refine fn_of (n := 16) Try.func13 rfl rfl rfl rfl ?_
  have hc : Ch [] w w := Ch.refl _ _
  refine cw_seq fun K1 hK2 => ?_
  refine cw_region fun K3 hK4 => ?_
  refine rw_cons (op_pv (w0 rfl) rfl rfl (pv_assign rfl rfl) ?_)
  refine rw_nil (hK4 _ _ ?_)
  refine hK2 _ _ ?_
  refine cw_seq fun K5 hK6 => ?_
  refine cw_seq fun K7 hK8 => ?_
  refine cw_region fun K9 hK10 => ?_
  refine rw_cons (op_pv (w0 rfl) rfl rfl (pv_move rfl rfl) ?_)
  refine rw_cons (op_call (w0 rfl) rfl rfl (rc_call C28 rfl rfl) (l6In_ok a 1 99 _  ) ?_)
  rintro _ w11 ⟨rfl, hch12⟩
  have hsz13 := hch12.size
  replace hc := hc.step0 hch12
  refine rw_cons (op_pv (w0 rfl) rfl rfl (pv_not rfl rfl) ?_)
  refine rw_cons (op_pv (w0 rfl) rfl rfl (pv_move rfl rfl) ?_)
  refine rw_split 8 rfl (fun hb14 => ?_) (fun hb14 => ?_)
  · -- yes
    replace hb14 := not_t hb14
    replace hb14 := dec_f hb14
    refine rw_cons (op_pass (w1n2 rfl rfl rfl rfl) rfl rfl ?_)
    refine rw_cons (op_pass (w1n2 rfl rfl rfl rfl) rfl rfl ?_)
    refine rw_cons (op_pass (w1n2 rfl rfl rfl rfl) rfl rfl ?_)
    refine rw_cons (op_pv (w0 rfl) rfl rfl (pv_pickT rfl rfl rfl) ?_)
    refine rw_nil (hK10 _ _ ?_)
    refine hK8 _ _ ?_
    refine cw_cond rfl (fun h15 => ?_) (fun h15 => ?_)
    · -- then
      clear h15
      refine cw_seq fun K16 hK17 => ?_
      refine cw_region fun K18 hK19 => ?_
      refine rw_cons (op_pv (w0 rfl) rfl rfl (pv_assign rfl rfl) ?_)
      refine rw_nil (hK19 _ _ ?_)
      refine hK17 _ _ ?_
      refine cw_ret ?_
      refine fin1 rfl ?_
      first
        | exact ⟨iv (scoreOf_no (by omega)).symm, hc⟩
        | exact ⟨iv (scoreOf_yes (by omega)).symm, hc⟩
    · -- else
      cases h15
  · -- no
    replace hb14 := not_f hb14
    replace hb14 := dec_t hb14
    refine rw_cons (op_pv (w1y rfl rfl rfl rfl) rfl rfl (pv_move rfl rfl) ?_)
    refine rw_cons (op_call (w1y rfl rfl rfl rfl) rfl rfl (rc_call C28 rfl rfl) (l6In_ok b 1 99 _  ) ?_)
    rintro _ w20 ⟨rfl, hch21⟩
    have hsz22 := hch21.size
    replace hc := hc.step0 hch21
    refine rw_cons (op_pv (w1y rfl rfl rfl rfl) rfl rfl (pv_not rfl rfl) ?_)
    refine rw_cons (op_pv (w0 rfl) rfl rfl (pv_pickF rfl rfl rfl) ?_)
    refine rw_nil (hK10 _ _ ?_)
    refine hK8 _ _ ?_
    refine cw_cond rfl (fun h23 => ?_) (fun h23 => ?_)
    · -- then
      replace h23 := not_t h23
      replace h23 := dec_f h23
      refine cw_seq fun K24 hK25 => ?_
      refine cw_region fun K26 hK27 => ?_
      refine rw_cons (op_pv (w0 rfl) rfl rfl (pv_assign rfl rfl) ?_)
      refine rw_nil (hK27 _ _ ?_)
      refine hK25 _ _ ?_
      refine cw_ret ?_
      refine fin1 rfl ?_
      first
        | exact ⟨iv (scoreOf_no (by omega)).symm, hc⟩
        | exact ⟨iv (scoreOf_yes (by omega)).symm, hc⟩
    · -- else
      replace h23 := not_f h23
      replace h23 := dec_t h23
      refine cw_skip ?_
      refine hK6 _ _ ?_
      refine cw_seq fun K28 hK29 => ?_
      refine cw_region fun K30 hK31 => ?_
      refine rw_cons (op_pv (w0 rfl) rfl rfl (pv_move rfl rfl) ?_)
      refine rw_cons (op_pv (w0 rfl) rfl rfl (pv_move rfl rfl) ?_)
      refine rw_cons (op_call (w0 rfl) rfl rfl (rc_call C29 rfl rfl) (l22Score_ok a b _  (by omega) (by omega)) ?_)
      rintro _ w32 ⟨rfl, hch33⟩
      have hsz34 := hch33.size
      replace hc := hc.step0 hch33
      refine rw_cons (op_pv (w0 rfl) rfl rfl (pv_assign rfl rfl) ?_)
      refine rw_nil (hK31 _ _ ?_)
      refine hK29 _ _ ?_
      refine cw_ret ?_
      refine fin1 rfl ?_
      first
        | exact ⟨iv (scoreOf_no (by omega)).symm, hc⟩
        | exact ⟨iv (scoreOf_yes (by omega)).symm, hc⟩
end Go.Proofs.Ytielahdnccocdaa

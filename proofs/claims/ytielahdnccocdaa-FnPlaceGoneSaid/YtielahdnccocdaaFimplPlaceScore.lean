/-
  The walk of impl.PlaceScore, written by program: each line names the law of one operation. Conditions: those of the theorem.
-/
import Derived.Test.YtielahdnccocdaaProg
import Derived.Test.YtielahdnccocdaaPlaces
import Derived.Test.YtielahdnccocdaaFimplidValid
import Derived.KernelRfl
namespace Go.Proofs.Ytielahdnccocdaa
open Go Go.RowKit
set_option linter.unusedVariables false
set_option linter.unusedSimpArgs false
namespace PlaceScore_iF
theorem C30 : Callable Try.prog 30 := ⟨_, Try.func30, by kernel_rfl, by kernel_rfl⟩
end PlaceScore_iF
open PlaceScore_iF in
set_option maxHeartbeats 4000000 in
theorem PlaceScore_i (a b : Int) (w : World) :
    Fn Try.prog 14 [(.int .i64 a), (.int .i64 b)] w fun v w' => v = .int .i64 (scoreOf a b) ∧ Ch [] w w' := by
  refine fn_of (n := 27) Try.func14 rfl rfl rfl rfl ?_
  have hc : Ch [] w w := Ch.refl _ _
  refine cw_seq fun K1 hK2 => ?_
  refine cw_region fun K3 hK4 => ?_
  refine rw_cons (op_pv (w0 rfl) rfl rfl (pv_assign (v := (.int .i64 0)) rfl rfl) ?_)
  refine rw_nil (hK4 _ _ ?_)
  refine hK2 _ _ ?_
  refine cw_seq fun K5 hK6 => ?_
  refine cw_seq fun K7 hK8 => ?_
  refine cw_region fun K9 hK10 => ?_
  refine rw_cons (op_pv (w0 rfl) rfl rfl (pv_move (v := (.int .i64 a)) rfl rfl) ?_)
  refine rw_cons (op_call (w0 rfl) rfl rfl (rc_call C30 rfl rfl) (idValid_ok a _  ) ?_)
  rintro _ w11 ⟨rfl, hch12⟩
  have hsz13 := hch12.size
  replace hc := hc.step0 hch12
  refine rw_cons (op_pv (w0 rfl) rfl rfl (pv_not rfl rfl) ?_)
  refine rw_cons (op_pv (w0 rfl) rfl rfl (pv_move (v := (.bool (!(dec (1 ≤ a ∧ a ≤ 99))))) rfl rfl) ?_)
  refine rw_split 9 rfl (fun hb14 => ?_) (fun hb14 => ?_)
  · -- yes
    replace hb14 := not_t hb14
    replace hb14 := dec_f hb14
    refine rw_cons (op_pass (w1n2 rfl rfl rfl rfl) rfl rfl ?_)
    refine rw_cons (op_pass (w1n2 rfl rfl rfl rfl) rfl rfl ?_)
    refine rw_cons (op_pass (w1n2 rfl rfl rfl rfl) rfl rfl ?_)
    refine rw_cons (op_pv (w0 rfl) rfl rfl (pv_pickT (v := (.bool true)) rfl rfl rfl) ?_)
    refine rw_nil (hK10 _ _ ?_)
    refine hK8 _ _ ?_
    refine cw_cond rfl (fun h15 => ?_) (fun h15 => ?_)
    · -- then
      clear h15
      refine cw_seq fun K16 hK17 => ?_
      refine cw_region fun K18 hK19 => ?_
      refine rw_cons (op_pv (w0 rfl) rfl rfl (pv_assign (v := (.int .i64 (-1))) rfl rfl) ?_)
      refine rw_nil (hK19 _ _ ?_)
      refine hK17 _ _ ?_
      refine cw_ret ?_
      refine fin1 rfl ?_
      first
        | exact ⟨iv (scoreOf_no (by omega)).symm, hc⟩
        | exact ⟨iv (scoreOf_yes (by omega)).symm, hc⟩
    · -- else
      cases h15
  · -- no
    replace hb14 := not_f hb14
    replace hb14 := dec_t hb14
    refine rw_cons (op_pv (w1y rfl rfl rfl rfl) rfl rfl (pv_move (v := (.int .i64 b)) rfl rfl) ?_)
    refine rw_cons (op_call (w1y rfl rfl rfl rfl) rfl rfl (rc_call C30 rfl rfl) (idValid_ok b _  ) ?_)
    rintro _ w20 ⟨rfl, hch21⟩
    have hsz22 := hch21.size
    replace hc := hc.step0 hch21
    refine rw_cons (op_pv (w1y rfl rfl rfl rfl) rfl rfl (pv_not rfl rfl) ?_)
    refine rw_cons (op_pv (w0 rfl) rfl rfl (pv_pickF (v := (.bool (!(dec (1 ≤ b ∧ b ≤ 99))))) rfl rfl rfl) ?_)
    refine rw_nil (hK10 _ _ ?_)
    refine hK8 _ _ ?_
    refine cw_cond rfl (fun h23 => ?_) (fun h23 => ?_)
    · -- then
      replace h23 := not_t h23
      replace h23 := dec_f h23
      refine cw_seq fun K24 hK25 => ?_
      refine cw_region fun K26 hK27 => ?_
      refine rw_cons (op_pv (w0 rfl) rfl rfl (pv_assign (v := (.int .i64 (-1))) rfl rfl) ?_)
      refine rw_nil (hK27 _ _ ?_)
      refine hK25 _ _ ?_
      refine cw_ret ?_
      refine fin1 rfl ?_
      first
        | exact ⟨iv (scoreOf_no (by omega)).symm, hc⟩
        | exact ⟨iv (scoreOf_yes (by omega)).symm, hc⟩
    · -- else
      replace h23 := not_f h23
      replace h23 := dec_t h23
      have hsq := sq_bd (131 * a + 17 * b + 7) 14659 (by omega) (by omega)
      refine cw_skip ?_
      refine hK6 _ _ ?_
      refine cw_seq fun K28 hK29 => ?_
      refine cw_region fun K30 hK31 => ?_
      refine rw_cons (op_pv (w0 rfl) rfl rfl (pv_move (v := (.int .i64 a)) rfl rfl) ?_)
      refine rw_cons (op_pv (w0 rfl) rfl rfl (pv_mul rfl rfl rfl (by omega) (by omega)) ?_)
      refine rw_cons (op_pv (w0 rfl) rfl rfl (pv_move (v := (.int .i64 b)) rfl rfl) ?_)
      refine rw_cons (op_pv (w0 rfl) rfl rfl (pv_mul rfl rfl rfl (by omega) (by omega)) ?_)
      refine rw_cons (op_pv (w0 rfl) rfl rfl (pv_add rfl rfl rfl (by omega) (by omega)) ?_)
      refine rw_cons (op_pv (w0 rfl) rfl rfl (pv_add rfl rfl rfl (by omega) (by omega)) ?_)
      refine rw_cons (op_pv (w0 rfl) rfl rfl (pv_assign (v := (.int .i64 (((131 * a) + (17 * b)) + 7))) rfl rfl) ?_)
      refine rw_nil (hK31 _ _ ?_)
      refine hK29 _ _ ?_
      refine cw_seq fun K32 hK33 => ?_
      refine cw_region fun K34 hK35 => ?_
      refine rw_cons (op_pv (w0 rfl) rfl rfl (pv_move (v := (.int .i64 (((131 * a) + (17 * b)) + 7))) rfl rfl) ?_)
      refine rw_cons (op_pv (w0 rfl) rfl rfl (pv_move (v := (.int .i64 (((131 * a) + (17 * b)) + 7))) rfl rfl) ?_)
      refine rw_cons (op_pv (w0 rfl) rfl rfl (pv_mul rfl rfl rfl (by omega) (by omega)) ?_)
      refine rw_cons (op_pv (w0 rfl) rfl rfl (pv_move (v := (.int .i64 (((131 * a) + (17 * b)) + 7))) rfl rfl) ?_)
      refine rw_cons (op_pv (w0 rfl) rfl rfl (pv_mul rfl rfl rfl (by omega) (by omega)) ?_)
      refine rw_cons (op_pv (w0 rfl) rfl rfl (pv_add rfl rfl rfl (by omega) (by omega)) ?_)
      refine rw_cons (op_pv (w0 rfl) rfl rfl (pv_rem rfl rfl rfl (by omega) (by omega)) ?_)
      refine rw_cons (op_pv (w0 rfl) rfl rfl (pv_assign (v := (.int .i64 ((((((131 * a) + (17 * b)) + 7) * (((131 * a) + (17 * b)) + 7)) + (3 * (((131 * a) + (17 * b)) + 7))) % 9973))) rfl rfl) ?_)
      refine rw_nil (hK35 _ _ ?_)
      refine hK33 _ _ ?_
      refine cw_ret ?_
      refine fin1 rfl ?_
      first
        | exact ⟨iv (scoreOf_no (by omega)).symm, hc⟩
        | exact ⟨iv (scoreOf_yes (by omega)).symm, hc⟩
end Go.Proofs.Ytielahdnccocdaa

/-
  The walk of spec.DrawPlaceScore, written by program: each line names the law of one operation. Conditions: those of the theorem.
-/
import Derived.Test.YtielahdnccocdaaProg
import Derived.Test.YtielahdnccocdaaFspecl6Open
import Derived.Test.YtielahdnccocdaaFspecl6Rdpick
import Derived.KernelRfl
namespace Go.Proofs.Ytielahdnccocdaa
open Go Go.RowKit
set_option linter.unusedVariables false
namespace DrawPlaceScore_okF
theorem C32 : Callable Try.prog 32 := ⟨_, Try.func32, by kernel_rfl, by kernel_rfl⟩
theorem C33 : Callable Try.prog 33 := ⟨_, Try.func33, by kernel_rfl, by kernel_rfl⟩
end DrawPlaceScore_okF
open DrawPlaceScore_okF in
set_option maxHeartbeats 4000000 in
theorem DrawPlaceScore_ok (A : Option Addr) (n c : Nat) (bs : List UInt8) (w : World) (hR : RS encU 1 w w.heap.size A n bs) (hn : n ≤ c) :
    Fn Try.prog 19 [(.slice A n c)] w fun v w' => ∃ a b : Int, v = .tuple #[.int .i64 a, .int .i64 b] ∧ Ch [] w w' := by
  refine fn_of (n := 23) Try.func19 rfl rfl rfl rfl ?_
  have hc : Ch [] w w := Ch.refl _ _
  refine cw_seq fun K1 hK2 => ?_
  refine cw_region fun K3 hK4 => ?_
  refine rw_cons (op_pv (w0 rfl) rfl rfl (pv_assign rfl rfl) ?_)
  refine rw_cons (op_pv (w0 rfl) rfl rfl (pv_assign rfl rfl) ?_)
  refine rw_nil (hK4 _ _ ?_)
  refine hK2 _ _ ?_
  refine cw_seq fun K5 hK6 => ?_
  refine cw_region fun K7 hK8 => ?_
  refine rw_cons (op_pv (w0 rfl) rfl rfl (pv_move rfl rfl) ?_)
  refine rw_cons (op_call (w0 rfl) rfl rfl (rc_call C32 rfl rfl) (l6Open_ok _ _ _ _ _ (hR.more (by omega)) (by omega)) ?_)
  rintro _ w10 ⟨g9, rfl, hg11, hRd12, hch13⟩
  have hsz14 := hch13.size
  replace hR := hR.ch0 hch13
  replace hc := hc.step0 hch13
  have hlt15 := hRd12.lt
  refine rw_cons (op_pv (w0 rfl) rfl rfl (pv_assign rfl rfl) ?_)
  refine rw_nil (hK8 _ _ ?_)
  refine hK6 _ _ ?_
  refine cw_seq fun K16 hK17 => ?_
  refine cw_region fun K18 hK19 => ?_
  refine rw_cons (op_pv (w0 rfl) rfl rfl (pv_move rfl rfl) ?_)
  refine rw_cons (op_call (w0 rfl) rfl rfl (rc_call C33 rfl rfl) (pick_ok _ _ _ _ hRd12 (by omega)) ?_)
  rintro _ w21 ⟨r20, rfl, hr22, hr23, hr24, hRd25, hch26⟩
  have hsz27 := hch26.size
  replace hR := hR.ch hch26 (off1 (by omega))
  replace hc := (off1 (by omega)).step hc hch26
  clear hRd12; have hRd12 := hRd25; clear hRd25
  refine rw_cons (op_pv (w0 rfl) rfl rfl (pv_add rfl rfl rfl (by omega) (by omega)) ?_)
  refine rw_cons (op_pv (w0 rfl) rfl rfl (pv_move rfl rfl) ?_)
  refine rw_cons (op_call (w0 rfl) rfl rfl (rc_call C33 rfl rfl) (pick_ok _ _ _ _ hRd12 (by omega)) ?_)
  rintro _ w29 ⟨r28, rfl, hr30, hr31, hr32, hRd33, hch34⟩
  have hsz35 := hch34.size
  replace hR := hR.ch hch34 (off1 (by omega))
  replace hc := (off1 (by omega)).step hc hch34
  clear hRd12; have hRd12 := hRd33; clear hRd33
  refine rw_cons (op_pv (w0 rfl) rfl rfl (pv_quo rfl rfl rfl (by omega) (by omega) (by omega)) ?_)
  refine rw_cons (op_pv (w0 rfl) rfl rfl (pv_mul rfl rfl rfl (by omega) (by omega)) ?_)
  refine rw_cons (op_pv (w0 rfl) rfl rfl (pv_sub rfl rfl rfl (by omega) (by omega)) ?_)
  refine rw_cons (op_pv (w0 rfl) rfl rfl (pv_move rfl rfl) ?_)
  refine rw_cons (op_call (w0 rfl) rfl rfl (rc_call C33 rfl rfl) (pick_ok _ _ _ _ hRd12 (by omega)) ?_)
  rintro _ w37 ⟨r36, rfl, hr38, hr39, hr40, hRd41, hch42⟩
  have hsz43 := hch42.size
  replace hR := hR.ch hch42 (off1 (by omega))
  replace hc := (off1 (by omega)).step hc hch42
  clear hRd12; have hRd12 := hRd41; clear hRd41
  refine rw_cons (op_pv (w0 rfl) rfl rfl (pv_add rfl rfl rfl (by omega) (by omega)) ?_)
  refine rw_cons (op_pv (w0 rfl) rfl rfl (pv_move rfl rfl) ?_)
  refine rw_cons (op_call (w0 rfl) rfl rfl (rc_call C33 rfl rfl) (pick_ok _ _ _ _ hRd12 (by omega)) ?_)
  rintro _ w45 ⟨r44, rfl, hr46, hr47, hr48, hRd49, hch50⟩
  have hsz51 := hch50.size
  replace hR := hR.ch hch50 (off1 (by omega))
  replace hc := (off1 (by omega)).step hc hch50
  clear hRd12; have hRd12 := hRd49; clear hRd49
  refine rw_cons (op_pv (w0 rfl) rfl rfl (pv_quo rfl rfl rfl (by omega) (by omega) (by omega)) ?_)
  refine rw_cons (op_pv (w0 rfl) rfl rfl (pv_mul rfl rfl rfl (by omega) (by omega)) ?_)
  refine rw_cons (op_pv (w0 rfl) rfl rfl (pv_add rfl rfl rfl (by omega) (by omega)) ?_)
  refine rw_cons (op_pv (w0 rfl) rfl rfl (pv_assign rfl rfl) ?_)
  refine rw_cons (op_pv (w0 rfl) rfl rfl (pv_assign rfl rfl) ?_)
  refine rw_nil (hK19 _ _ ?_)
  refine hK17 _ _ ?_
  refine cw_ret ?_
  refine fin2 rfl rfl ?_
  exact ⟨_, _, rfl, hc⟩
end Go.Proofs.Ytielahdnccocdaa

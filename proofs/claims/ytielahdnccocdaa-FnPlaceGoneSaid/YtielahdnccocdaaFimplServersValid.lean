/-
  The walk of impl.ServersValid, written by program: each line names the law of one operation. Conditions: those of the theorem.
-/
import Derived.Test.YtielahdnccocdaaProg
import Derived.Test.YtielahdnccocdaaPlaces
import Derived.Test.YtielahdnccocdaaFimplidsAscend
import Derived.KernelRfl
namespace Go.Proofs.Ytielahdnccocdaa
open Go Go.RowKit
set_option linter.unusedVariables false
set_option linter.unusedSimpArgs false
namespace ServersValid_iF
theorem C31 : Callable Try.prog 31 := ⟨_, Try.func31, by kernel_rfl, by kernel_rfl⟩
end ServersValid_iF
open ServersValid_iF in
set_option maxHeartbeats 4000000 in
theorem ServersValid_i (A : Option Addr) (n c : Nat) (xs : List Int) (w : World) (hR : RS encI 1 w w.heap.size A n xs) (hn : n ≤ 1099511627776) :
    Fn Try.prog 17 [(.slice A n c)] w fun v w' => v = .bool (dec (ServersOK xs)) ∧ Ch [] w w' := by
  have hlen := hR.len
  refine fn_of (n := 8) Try.func17 rfl rfl rfl rfl ?_
  have hc : Ch [] w w := Ch.refl _ _
  refine cw_seq fun K1 hK2 => ?_
  refine cw_region fun K3 hK4 => ?_
  refine rw_cons (op_pv (w0 rfl) rfl rfl (pv_assign (v := (.bool false)) rfl rfl) ?_)
  refine rw_nil (hK4 _ _ ?_)
  refine hK2 _ _ ?_
  refine cw_seq fun K5 hK6 => ?_
  refine cw_seq fun K7 hK8 => ?_
  refine cw_region fun K9 hK10 => ?_
  refine rw_cons (op_pv (w0 rfl) rfl rfl (pv_move (v := (.slice A n c)) rfl rfl) ?_)
  refine rw_cons (op_pv (w0 rfl) rfl rfl (pv_len Try.underlying24 rfl rfl) ?_)
  refine rw_cons (op_pv (w0 rfl) rfl rfl (pv_gtr rfl rfl rfl) ?_)
  refine rw_nil (hK10 _ _ ?_)
  refine hK8 _ _ ?_
  refine cw_cond rfl (fun h11 => ?_) (fun h11 => ?_)
  · -- then
    replace h11 := of_decide_eq_true h11
    refine cw_seq fun K12 hK13 => ?_
    refine cw_region fun K14 hK15 => ?_
    refine rw_cons (op_pv (w0 rfl) rfl rfl (pv_assign (v := (.bool false)) rfl rfl) ?_)
    refine rw_nil (hK15 _ _ ?_)
    refine hK13 _ _ ?_
    refine cw_ret ?_
    refine fin1 rfl ?_
    exact ⟨bvf (fun h => by have := h.1; omega), hc⟩
  · -- else
    replace h11 := of_decide_eq_false h11
    refine cw_skip ?_
    refine hK6 _ _ ?_
    refine cw_seq fun K16 hK17 => ?_
    refine cw_region fun K18 hK19 => ?_
    refine rw_cons (op_pv (w0 rfl) rfl rfl (pv_move (v := (.slice A n c)) rfl rfl) ?_)
    refine rw_cons (op_call (w0 rfl) rfl rfl (rc_call C31 rfl rfl) (idsAscend_ok _ _ _ xs _ (hR.more (by omega)) (by omega)) ?_)
    rintro _ w20 ⟨rfl, hch21⟩
    have hsz22 := hch21.size
    replace hR := hR.ch0 hch21
    replace hc := hc.step0 hch21
    refine rw_cons (op_pv (w0 rfl) rfl rfl (pv_assign (v := (.bool (dec (IdsOK xs)))) rfl rfl) ?_)
    refine rw_nil (hK19 _ _ ?_)
    refine hK17 _ _ ?_
    refine cw_ret ?_
    refine fin1 rfl ?_
    exact ⟨bv (dec_congr ⟨fun h => ⟨by omega, h⟩, fun h => h.2⟩), hc⟩
end Go.Proofs.Ytielahdnccocdaa

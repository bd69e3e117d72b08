/-
  The walk of impl.BaseRun$1, written by program: each line names the law of one operation. Conditions: those of the theorem.
-/
import Derived.Test.YtpnenfglogggmaaProg
import Derived.Test.YtpnenfglogggmaaBase
import Derived.Test.YtpnenfglogggmaaArr
import Derived.Test.YtpnenfglogggmaaFimplstateArrayput
import Derived.KernelRfl
namespace Go.Proofs.Ytpnenfglogggmaa
open Go Go.RowKit
set_option linter.unusedVariables false
set_option linter.unusedSimpArgs false
namespace run1_okF
theorem T65 : TI Try.prog 65 true (.agg #[.int .i64 0, .int .i64 0]) 2 16 := TI.mk' Try.underlying65 rfl (by kernel_rfl)
theorem C39 : Callable Try.prog 39 := ⟨_, Try.func39, by kernel_rfl, by kernel_rfl⟩
end run1_okF
open run1_okF in
set_option maxHeartbeats 4000000 in
theorem run1_ok (g base : Nat) (xs : List Int) (us ua : Int) (w : World) (hO : Own encI 1 w base 80 (.slice (some ⟨g, 0, none⟩) 5 5) xs) (hb : base ≤ w.heap.size) (hu : 0 ≤ us ∧ us ≤ 4) :
    Fn Try.prog 38 [(.pointer (some (⟨g, 0, none⟩))), (.agg #[(.int .i64 us), (.int .i64 ua)])] w fun v w' => v = .pointer (some ⟨g, 0, none⟩) ∧ Own encI 1 w' base 80 (.slice (some ⟨g, 0, none⟩) 5 5) (xs.set us.toNat ua) ∧ Ch (obl (.slice (some ⟨g, 0, none⟩) 5 5)) w w' := by
  have hub := hO.lt
  refine fn_of (n := 9) Try.func38 rfl rfl rfl rfl ?_
  have hc : Ch (obl (.slice (some ⟨g, 0, none⟩) 5 5)) w w := Ch.refl _ _
  refine cw_seq fun K1 hK2 => ?_
  refine cw_region fun K3 hK4 => ?_
  refine rw_cons (op_box (w0 rfl) rfl rfl rfl rfl ?_)
  rintro g6 w5 hg9 hg10 hB8 hch7
  have hsz11 := hch7.size
  replace hO := hO.ch0 hch7
  replace hc := hc.step0 hch7
  replace hB8 : Blk w5 g6 65 [(.int .i64 us), (.int .i64 ua)] := hB8
  refine rw_cons (op_pv (w0 rfl) rfl rfl (pv_assign (v := (.pointer none)) rfl rfl) ?_)
  refine rw_nil (hK4 _ _ ?_)
  refine hK2 _ _ ?_
  refine cw_seq fun K12 hK13 => ?_
  refine cw_region fun K14 hK15 => ?_
  refine rw_cons (op_pv (w0 rfl) rfl rfl (pv_move (v := (.pointer (some (⟨g, 0, none⟩)))) rfl rfl) ?_)
  refine rw_cons (op_lv (w0 rfl) rfl rfl (lv_loadN T65 rfl rfl rfl (fun j v hv => hB8.cellA hv)) ?_)
  refine rw_cons (op_call (w0 rfl) rfl rfl (rc_call C39 rfl rfl) (put_ok _ _ _ us ua _ hO (by omega) (by omega)) ?_)
  rintro _ w16 ⟨rfl, hO17, hch18⟩
  have hsz19 := hch18.size
  replace hB8 := hB8.ch hch18 (by first | (refine hO.off.not ?_; omega) | (intro hs; have := hub _ hs; omega))
  replace hc := hc.step hch18 (fun s hs => .inl hs)
  clear hO; have hO := hO17; clear hO17
  refine rw_nil (hK15 _ _ ?_)
  refine hK13 _ _ ?_
  refine cw_seq fun K20 hK21 => ?_
  refine cw_region fun K22 hK23 => ?_
  refine rw_cons (op_pv (w0 rfl) rfl rfl (pv_move (v := (.pointer (some (⟨g, 0, none⟩)))) rfl rfl) ?_)
  refine rw_cons (op_pv (w0 rfl) rfl rfl (pv_assign (v := (.pointer (some (⟨g, 0, none⟩)))) rfl rfl) ?_)
  refine rw_nil (hK23 _ _ ?_)
  refine hK21 _ _ ?_
  refine cw_ret ?_
  refine fin1 rfl ?_
  exact ⟨rfl, hO, hc⟩
end Go.Proofs.Ytpnenfglogggmaa

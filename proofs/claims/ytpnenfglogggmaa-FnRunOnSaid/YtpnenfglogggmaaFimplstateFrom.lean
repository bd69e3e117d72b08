/-
  The walk of impl.stateFrom, written by program: each line names the law of one operation. Conditions: those of the theorem.
-/
import Derived.Test.YtpnenfglogggmaaProg
import Derived.Test.YtpnenfglogggmaaBase
import Derived.Test.YtpnenfglogggmaaArr
import Derived.KernelRfl
namespace Go.Proofs.Ytpnenfglogggmaa
open Go Go.RowKit
set_option linter.unusedVariables false
set_option linter.unusedSimpArgs false
namespace stateFrom_okF
theorem T3 : TI Try.prog 3 false (.int .i64 0) 1 8 := TI.mk' Try.underlying3 rfl (by kernel_rfl)
theorem T80 : TI Try.prog 80 true (.agg #[.int .i64 0, .int .i64 0, .int .i64 0, .int .i64 0, .int .i64 0]) 5 40 := TI.mk' Try.underlying80 rfl (by kernel_rfl)
end stateFrom_okF
open stateFrom_okF in
set_option maxHeartbeats 4000000 in
theorem stateFrom_ok (A : Option Addr) (n c : Nat) (xs : List Int) (w : World) (hR : RS encI 1 w w.heap.size A n xs) (hn : n = 5) :
    Fn Try.prog 36 [(.slice A n c)] w fun v w' => ∃ g, v = .pointer (some ⟨g, 0, none⟩) ∧ w.heap.size ≤ g ∧ Own encI 1 w' w.heap.size 80 (.slice (some ⟨g, 0, none⟩) 5 5) xs ∧ Ch [] w w' := by
  have hlen := hR.len
  refine fn_of (n := 11) Try.func36 rfl rfl rfl rfl ?_
  have hc : Ch [] w w := Ch.refl _ _
  refine cw_seq fun K1 hK2 => ?_
  refine cw_region fun K3 hK4 => ?_
  refine rw_cons (op_pv (w0 rfl) rfl rfl (pv_assign (v := (.pointer none)) rfl rfl) ?_)
  refine rw_nil (hK4 _ _ ?_)
  refine hK2 _ _ ?_
  refine cw_seq fun K5 hK6 => ?_
  refine cw_region fun K7 hK8 => ?_
  refine rw_cons (op_alloc T80 (w0 rfl) rfl rfl rfl ?_)
  rintro g10 w9 hg13 hg14 hB12 hch11
  have hsz15 := hch11.size
  replace hR := hR.ch0 hch11
  replace hc := hc.step0 hch11
  replace hB12 : Blk w9 g10 80 [(.int .i64 0), (.int .i64 0), (.int .i64 0), (.int .i64 0), (.int .i64 0)] := hB12
  have hO16 : Own encI 1 w9 w.heap.size 80 (.slice (some ⟨g10, 0, none⟩) 5 5) (List.replicate 5 (0 : Int)) := arr_own hB12 (by omega) (by decide)
  clear hB12
  have hub17 := hO16.lt
  refine rw_cons (op_pv (w0 rfl) rfl rfl (pv_assign (v := (.pointer (some (⟨g10, 0, none⟩)))) rfl rfl) ?_)
  refine rw_nil (hK8 _ _ ?_)
  refine hK6 _ _ ?_
  refine cw_seq fun K18 hK19 => ?_
  refine cw_region fun K20 hK21 => ?_
  refine rw_cons (op_pv (w0 rfl) rfl rfl (pv_move (v := (.pointer (some (⟨g10, 0, none⟩)))) rfl rfl) ?_)
  refine rw_cons (op_pv (w0 rfl) rfl rfl (pv_nil rfl rfl) ?_)
  refine rw_cons (op_pv (w0 rfl) rfl rfl (pv_sliceArr Try.underlying80 T3 rfl rfl) ?_)
  refine rw_cons (op_pv (w0 rfl) rfl rfl (pv_move (v := (.slice A n c)) rfl rfl) ?_)
  have hle25 := hO16.le
  refine rw_cons (op_copy (k := 0) Try.underlying23 T3 (fun _ => rfl) (by decide) (fun _ => one_all rfl) (w0 rfl) rfl rfl rfl rfl rfl hO16 hR (fun h => by have := hO16.some' (by omega); simpa [add_zero'] using this) (by omega) ?_)
  rintro w22 hO23 hch24
  have hsz26 := hch24.size
  replace hR := hR.ch hch24 (hO16.off.le (by omega))
  replace hc := (hO16.off.le (by omega)).step hc hch24
  clear hO16; have hO16 := hO23; clear hO23
  refine rw_nil (hK21 _ _ ?_)
  refine hK19 _ _ ?_
  refine cw_seq fun K27 hK28 => ?_
  refine cw_region fun K29 hK30 => ?_
  refine rw_cons (op_pv (w0 rfl) rfl rfl (pv_move (v := (.pointer (some (⟨g10, 0, none⟩)))) rfl rfl) ?_)
  refine rw_cons (op_pv (w0 rfl) rfl rfl (pv_assign (v := (.pointer (some (⟨g10, 0, none⟩)))) rfl rfl) ?_)
  refine rw_nil (hK30 _ _ ?_)
  refine hK28 _ _ ?_
  refine cw_ret ?_
  refine fin1 rfl ?_
  have hxy : ((List.replicate 5 (0 : Int)).take 0 ++ xs.take (min n 5) ++ (List.replicate 5 (0 : Int)).drop (0 + min n 5)) = xs := by subst hn; simp [hlen, List.take_of_length_le]
  rw [hxy] at hO16
  exact ⟨_, rfl, by omega, hO16.less (by omega), hc⟩
end Go.Proofs.Ytpnenfglogggmaa

/-
  The walk of impl.newState, written by program: each line names the law of one operation. Conditions: those of the theorem.
-/
import Derived.Test.YtdnncgapbjnfoaaProg
import Derived.Test.YtdnncgapbjnfoaaNode
import Derived.Test.YtdnncgapbjnfoaaArr
import Derived.KernelRfl
namespace Go.Proofs.Ytdnncgapbjnfoaa
open Go Go.RowKit
set_option linter.unusedVariables false
set_option linter.unusedSimpArgs false
namespace newState_okF
theorem T3 : TI Try.prog 3 false (.int .i64 0) 1 8 := TI.mk' Try.underlying3 rfl (by kernel_rfl)
theorem T69 : TI Try.prog 69 true (.agg #[.int .i64 0, .int .i64 0, .int .i64 0, .int .i64 0, .int .i64 0]) 5 40 := TI.mk' Try.underlying69 rfl (by kernel_rfl)
end newState_okF
open newState_okF in
set_option maxHeartbeats 4000000 in
theorem newState_ok (w : World) :
    Fn Try.prog 39 [] w fun v w' => ∃ g, v = .pointer (some ⟨g, 0, none⟩) ∧ w.heap.size ≤ g ∧ Own encI 1 w' w.heap.size 69 (.slice (some ⟨g, 0, none⟩) 5 5) empty5 ∧ Ch [] w w' := by
  refine fn_of (n := 13) Try.func39 rfl rfl rfl rfl ?_
  have hc : Ch [] w w := Ch.refl _ _
  refine cw_seq fun K1 hK2 => ?_
  refine cw_region fun K3 hK4 => ?_
  refine rw_cons (op_pv (w0 rfl) rfl rfl (pv_assign (v := (.pointer none)) rfl rfl) ?_)
  refine rw_nil (hK4 _ _ ?_)
  refine hK2 _ _ ?_
  refine cw_seq fun K5 hK6 => ?_
  refine cw_region fun K7 hK8 => ?_
  refine rw_cons (op_alloc T69 (w0 rfl) rfl rfl rfl ?_)
  rintro g10 w9 hg13 hg14 hB12 hch11
  have hsz15 := hch11.size
  replace hc := hc.step0 hch11
  replace hB12 : Blk w9 g10 69 [(.int .i64 0), (.int .i64 0), (.int .i64 0), (.int .i64 0), (.int .i64 0)] := hB12
  have hO16 : Own encI 1 w9 w.heap.size 69 (.slice (some ⟨g10, 0, none⟩) 5 5) (List.replicate 5 (0 : Int)) := arr_own hB12 (by omega) (by decide)
  clear hB12
  have hub17 := hO16.lt
  refine rw_cons (op_pv (w0 rfl) rfl rfl (pv_assign (v := (.pointer (some (⟨g10, 0, none⟩)))) rfl rfl) ?_)
  refine rw_nil (hK8 _ _ ?_)
  refine hK6 _ _ ?_
  refine cw_seq fun K18 hK19 => ?_
  refine cw_seq fun K20 hK21 => ?_
  refine cw_region fun K22 hK23 => ?_
  refine rw_cons (op_pv (w0 rfl) rfl rfl (pv_move (v := (.int .i64 0)) rfl rfl) ?_)
  refine rw_nil (hK23 _ _ ?_)
  refine hK21 _ _ ?_
  refine cw_block ?_
  refine cw_loop (σ := Nat) (fun k => [(4, (.int .i64 (k : Int))), (0, (.pointer none)), (1, (.pointer (some (⟨g10, 0, none⟩))))]) (fun k W => (k ≤ 5) ∧ Own encI 1 W w.heap.size 69 (.slice (some ⟨g10, 0, none⟩) 5 5) (fillA k) ∧ Ch [] w W) (fun k => 5 - k) 0 ?_ ?_ ?_
  · exact ⟨rfl, rfl, rfl, trivial⟩
  · refine ⟨Nat.zero_le _, (by rw [fill_zero]; exact hO16), hc⟩
  · rintro k J28 w24 ⟨hk, hO16, hc⟩ K25 hK26
    have hsz30 := hc.size
    have hub17 := hO16.lt
    refine cw_seq fun K31 hK32 => ?_
    refine cw_region fun K33 hK34 => ?_
    refine rw_cons (op_pv (w0 rfl) rfl rfl (pv_lss rfl rfl rfl) ?_)
    refine rw_nil (hK34 _ _ ?_)
    refine hK32 _ _ ?_
    refine cw_seq fun K35 hK36 => ?_
    refine cw_cond rfl (fun h37 => ?_) (fun h37 => ?_)
    · -- then
      replace h37 := of_decide_eq_true h37
      refine cw_skip ?_
      refine hK36 _ _ ?_
      refine cw_seq fun K38 hK39 => ?_
      refine cw_block ?_
      refine cw_seq fun K40 hK41 => ?_
      refine cw_region fun K42 hK43 => ?_
      refine rw_cons (op_pv (w0 rfl) rfl rfl (pv_move (v := (.int .i64 (k : Int))) rfl rfl) ?_)
      refine rw_cons (op_pv (w0 rfl) rfl rfl (pv_assign (v := (.int .i64 (k : Int))) rfl rfl) ?_)
      refine rw_nil (hK43 _ _ ?_)
      refine hK41 _ _ ?_
      refine cw_region fun K44 hK45 => ?_
      refine rw_cons (op_pv (w0 rfl) rfl rfl (pv_move (v := (.pointer (some (⟨g10, 0, none⟩)))) rfl rfl) ?_)
      refine rw_cons (op_pv (w0 rfl) rfl rfl (pv_move (v := (.int .i64 (k : Int))) rfl rfl) ?_)
      refine rw_cons (op_pv (w0 rfl) rfl rfl (pv_nil rfl rfl) ?_)
      refine rw_cons (op_pv (w0 rfl) rfl rfl (pv_idxA Try.underlying69 T3 rfl rfl rfl (by omega) (by omega)) ?_)
      refine rw_cons (op_store_ownA (k := k) (off := 0) (-1) T3 hO16 (fun _ => rfl) (w0 rfl) rfl rfl rfl rfl rfl (one_all rfl) (by omega) (Nat.le_of_ble_eq_true rfl) rfl ?_)
      rintro w46 hO48 hch47
      have hsz49 := hch47.size
      replace hc := (hO16.off.le (by omega)).step hc hch47
      clear hO16; have hO16 := hO48; clear hO48
      refine rw_nil (hK45 _ _ ?_)
      refine hK39 _ _ ?_
      refine cw_region fun K50 hK51 => ?_
      refine rw_cons (op_pv (w0 rfl) rfl rfl (pv_add rfl rfl rfl (by omega) (by omega)) ?_)
      refine rw_cons (op_pv (w0 rfl) rfl rfl (pv_move (v := (.int .i64 ((k : Int) + 1))) rfl rfl) ?_)
      refine rw_nil (hK51 _ _ ?_)
      refine hK26 _ _ (k + 1) ⟨(iv (by omega)), rfl, rfl, trivial⟩ ⟨?_, (by rw [← fill_step (by omega)]; exact hO16), hc⟩ ?_
      · omega
      · (first | omega | (simp only []; omega))
    · -- else
      replace h37 := of_decide_eq_false h37
      refine cw_exit ?_
      refine hK19 _ _ ?_
      refine cw_seq fun K52 hK53 => ?_
      refine cw_region fun K54 hK55 => ?_
      refine rw_cons (op_pv (w0 rfl) rfl rfl (pv_move (v := (.pointer (some (⟨g10, 0, none⟩)))) rfl rfl) ?_)
      refine rw_cons (op_pv (w0 rfl) rfl rfl (pv_assign (v := (.pointer (some (⟨g10, 0, none⟩)))) rfl rfl) ?_)
      refine rw_nil (hK55 _ _ ?_)
      refine hK53 _ _ ?_
      refine cw_ret ?_
      refine fin1 rfl ?_
      have hxy : (fillA k) = empty5 := fill_all (by omega)
      rw [hxy] at hO16
      exact ⟨_, rfl, by omega, hO16.less (by omega), hc⟩
end Go.Proofs.Ytdnncgapbjnfoaa

/-
  The walk of (*impl.pieceTree).with!leaf, written by program: each line names the law of one operation. Conditions: those of the theorem.
-/
import Derived.Test.YthgnlljpjpklpaaProg
import Derived.Test.YthgnlljpjpklpaaDeep
import Derived.KernelRfl
namespace Go.Proofs.Ythgnlljpjpklpaa
open Go Go.RowKit
set_option linter.unusedVariables false
set_option linter.unusedSimpArgs false
namespace with_leafF
theorem B80_0I (a0 : Int) (u : World) : (Instr.build 80 #[(0, .int .i64 a0)]).run Try.prog u = .ok (.agg #[.int .i64 a0, .pointer none, .pointer none]) u := by kernel_rfl
end with_leafF
open with_leafF in
set_option maxHeartbeats 4000000 in
theorem with_leaf (x : Int) (w : World) :
    Fn Try.prog 67 [(.pointer none), (.int .i64 x)] w fun v w' => ∃ g, v = .tuple #[.pointer (some ⟨g, 0, none⟩), .bool true] ∧ Blk w' g 80 [.int .i64 x, .pointer none, .pointer none] ∧ w.heap.size ≤ g ∧ Ch [] w w' := by
  refine fn_of (n := 52) Try.func67 rfl rfl rfl rfl ?_
  have hc : Ch [] w w := Ch.refl _ _
  refine cw_seq fun K1 hK2 => ?_
  refine cw_region fun K3 hK4 => ?_
  refine rw_cons (op_pv (w0 rfl) rfl rfl (pv_assign (v := (.pointer none)) rfl rfl) ?_)
  refine rw_cons (op_pv (w0 rfl) rfl rfl (pv_assign (v := (.bool false)) rfl rfl) ?_)
  refine rw_nil (hK4 _ _ ?_)
  refine hK2 _ _ ?_
  refine cw_seq fun K5 hK6 => ?_
  refine cw_seq fun K7 hK8 => ?_
  refine cw_region fun K9 hK10 => ?_
  refine rw_cons (op_pv (w0 rfl) rfl rfl (pv_move (v := (.pointer none)) rfl rfl) ?_)
  refine rw_cons (op_pv (w0 rfl) rfl rfl (pv_eqPn Try.underlying65 rfl rfl rfl) ?_)
  refine rw_nil (hK10 _ _ ?_)
  refine hK8 _ _ ?_
  refine cw_cond rfl (fun h11 => ?_) (fun h11 => ?_)
  · -- then
    clear h11
    refine cw_seq fun K12 hK13 => ?_
    refine cw_region fun K14 hK15 => ?_
    refine rw_cons (op_pv (w0 rfl) rfl rfl (pv_move (v := (.int .i64 x)) rfl rfl) ?_)
    refine rw_cons (op_pv (w0 rfl) rfl rfl (pv_build rfl rfl (B80_0I _)) ?_)
    refine rw_cons (op_box (w0 rfl) rfl rfl rfl rfl ?_)
    rintro g17 w16 hg20 hg21 hB19 hch18
    have hsz22 := hch18.size
    replace hc := hc.step0 hch18
    replace hB19 : Blk w16 g17 80 [(.int .i64 x), (.pointer none), (.pointer none)] := hB19
    refine rw_cons (op_pv (w0 rfl) rfl rfl (pv_assign (v := (.pointer (some (⟨g17, 0, none⟩)))) rfl rfl) ?_)
    refine rw_cons (op_pv (w0 rfl) rfl rfl (pv_assign (v := (.bool true)) rfl rfl) ?_)
    refine rw_nil (hK15 _ _ ?_)
    refine hK13 _ _ ?_
    refine cw_ret ?_
    refine fin2 rfl rfl ?_
    exact ⟨_, rfl, hB19, by omega, hc⟩
  · -- else
    cases h11
end Go.Proofs.Ythgnlljpjpklpaa

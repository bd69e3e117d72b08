/-
  The walk of impl.stepsInOrder, written by program: each line names the law of one operation. Conditions: those of the theorem.
-/
import Derived.Test.YtdnncgapbjnfoaaProg
import Derived.Test.YtdnncgapbjnfoaaSteps
import Derived.Test.YtdnncgapbjnfoaaFimplstepsInOrder1
import Derived.KernelRfl
namespace Go.Proofs.Ytdnncgapbjnfoaa
open Go Go.RowKit
set_option linter.unusedVariables false
set_option linter.unusedSimpArgs false
namespace stepsInOrder_okF

end stepsInOrder_okF
open stepsInOrder_okF in
set_option maxHeartbeats 4000000 in
theorem stepsInOrder_ok (A : Option Addr) (n c : Nat) (hs : List Stp) (w : World) (hR : RS encP 3 w w.heap.size A n hs) :
    Fn Try.prog 29 [(.slice A n c)] w fun v w' => ∃ g1, v = .func (.func 41) #[] #[.pointer (some ⟨g1, 0, none⟩)] ∧ w.heap.size ≤ g1 ∧ Blk w' g1 23 [.slice A n c] ∧ Ch [] w w' := by
  refine fn_of (n := 4) Try.func29 rfl rfl rfl rfl ?_
  have hc : Ch [] w w := Ch.refl _ _
  refine cw_seq fun K1 hK2 => ?_
  refine cw_region fun K3 hK4 => ?_
  refine rw_cons (op_box (w0 rfl) rfl rfl rfl rfl ?_)
  rintro g6 w5 hg9 hg10 hB8 hch7
  have hsz11 := hch7.size
  replace hR := hR.ch0 hch7
  replace hc := hc.step0 hch7
  replace hB8 : Blk w5 g6 23 [(.slice A n c)] := hB8
  refine rw_cons (op_pv (w0 rfl) rfl rfl (pv_assign (v := .nilFunc) rfl rfl) ?_)
  refine rw_nil (hK4 _ _ ?_)
  refine hK2 _ _ ?_
  refine cw_seq fun K12 hK13 => ?_
  refine cw_region fun K14 hK15 => ?_
  refine rw_cons (op_pv (w0 rfl) rfl rfl (pv_mkfn rfl rfl) ?_)
  refine rw_cons (op_pv (w0 rfl) rfl rfl (pv_assign (v := (.func (.func 41) #[] #[(.pointer (some (⟨g6, 0, none⟩)))])) rfl rfl) ?_)
  refine rw_nil (hK15 _ _ ?_)
  refine hK13 _ _ ?_
  refine cw_ret ?_
  refine fin1 rfl ?_
  exact ⟨_, rfl, by omega, hB8, hc⟩
end Go.Proofs.Ytdnncgapbjnfoaa

/-
  The walk of (impl.serverHeap).Len, written by program: each line names the law of one operation. Conditions: those of the theorem.
-/
import Derived.Test.YtielahdnccocdaaProg
import Derived.Test.YtielahdnccocdaaRank
import Derived.KernelRfl
namespace Go.Proofs.Ytielahdnccocdaa
open Go Go.RowKit
set_option linter.unusedVariables false
set_option linter.unusedSimpArgs false
namespace heapLen_okF

end heapLen_okF
open heapLen_okF in
set_option maxHeartbeats 4000000 in
theorem heapLen_ok (Ahs : Option Addr) (nhs chs : Nat) (hs : List Bt) (w : World) (hRhs : RS encB 2 w w.heap.size Ahs nhs hs) (hNhs : nhs ≤ 1099511627776) :
    Fn Try.prog 57 [(.slice Ahs nhs chs)] w fun v w' => v = .int .i64 (nhs : Int) ∧ Ch [] w w' := by
  have hlenhs := hRhs.len
  refine fn_of (n := 5) Try.func57 rfl rfl rfl rfl ?_
  have hc : Ch [] w w := Ch.refl _ _
  refine cw_seq fun K1 hK2 => ?_
  refine cw_region fun K3 hK4 => ?_
  refine rw_cons (op_pv (w0 rfl) rfl rfl (pv_assign (v := (.int .i64 0)) rfl rfl) ?_)
  refine rw_nil (hK4 _ _ ?_)
  refine hK2 _ _ ?_
  refine cw_seq fun K5 hK6 => ?_
  refine cw_region fun K7 hK8 => ?_
  refine rw_cons (op_pv (w0 rfl) rfl rfl (pv_move (v := (.slice Ahs nhs chs)) rfl rfl) ?_)
  refine rw_cons (op_pv (w0 rfl) rfl rfl (pv_len Try.underlying50 rfl rfl) ?_)
  refine rw_cons (op_pv (w0 rfl) rfl rfl (pv_assign (v := (.int .i64 (nhs : Int))) rfl rfl) ?_)
  refine rw_nil (hK8 _ _ ?_)
  refine hK6 _ _ ?_
  refine cw_ret ?_
  refine fin1 rfl ?_
  exact ⟨rfl, hc⟩
end Go.Proofs.Ytielahdnccocdaa

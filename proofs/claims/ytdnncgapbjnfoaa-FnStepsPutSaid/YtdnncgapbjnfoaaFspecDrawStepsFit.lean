/-
  The walk of spec.DrawStepsFit, written by program: each line names the law of one operation. Conditions: those of the theorem.
-/
import Derived.Test.YtdnncgapbjnfoaaProg
import Derived.Test.YtdnncgapbjnfoaaSteps
import Derived.Test.YtdnncgapbjnfoaaFspecl6Open
import Derived.Test.YtdnncgapbjnfoaaFspecl92Steps
import Derived.KernelRfl
namespace Go.Proofs.Ytdnncgapbjnfoaa
open Go Go.RowKit
set_option linter.unusedVariables false
set_option linter.unusedSimpArgs false
namespace DrawStepsFit_okF
theorem C25 : Callable Try.prog 25 := ⟨_, Try.func25, by kernel_rfl, by kernel_rfl⟩
theorem C26 : Callable Try.prog 26 := ⟨_, Try.func26, by kernel_rfl, by kernel_rfl⟩
end DrawStepsFit_okF
open DrawStepsFit_okF in
set_option maxHeartbeats 4000000 in
theorem DrawStepsFit_ok (A : Option Addr) (n c : Nat) (bs : List UInt8) (w : World) (hR : RS encU 1 w w.heap.size A n bs) (hn : n ≤ c) :
    Fn Try.prog 7 [(.slice A n c)] w fun v w' => ∃ Axs cxs xs, v = .slice Axs xs.length cxs ∧ Own encP 3 w' w.heap.size 27 (.slice Axs xs.length cxs) xs ∧ xs.length ≤ 21 ∧ Ch [] w w' := by
  refine fn_of (n := 6) Try.func7 rfl rfl rfl rfl ?_
  have hc : Ch [] w w := Ch.refl _ _
  refine cw_seq fun K1 hK2 => ?_
  refine cw_region fun K3 hK4 => ?_
  refine rw_cons (op_pv (w0 rfl) rfl rfl (pv_assign (v := (.slice none 0 0)) rfl rfl) ?_)
  refine rw_nil (hK4 _ _ ?_)
  refine hK2 _ _ ?_
  refine cw_seq fun K5 hK6 => ?_
  refine cw_region fun K7 hK8 => ?_
  refine rw_cons (op_pv (w0 rfl) rfl rfl (pv_move (v := (.slice A n c)) rfl rfl) ?_)
  refine rw_cons (op_call (w0 rfl) rfl rfl (rc_call C26 rfl rfl) (l6Open_ok _ _ _ _ _ (hR.more (by omega)) (by omega)) ?_)
  rintro _ w10 ⟨g9, rfl, hg11, hRd12, hch13⟩
  have hsz14 := hch13.size
  replace hR := hR.ch0 hch13
  replace hc := hc.step0 hch13
  have hlt15 := hRd12.lt
  refine rw_cons (op_call (w0 rfl) rfl rfl (rc_call C25 rfl rfl) (l92Steps_ok _ _ _ hRd12 (by omega)) ?_)
  rintro _ w16 ⟨A19, c20, xs18, rfl, hO21, hl23, hRd24, hch17⟩
  have hsz25 := hch17.size
  replace hR := hR.ch hch17 (off1 (by omega))
  replace hc := (off1 (by omega)).step hc hch17
  clear hRd12; have hRd12 := hRd24; clear hRd24
  have hub22 := hO21.lt
  have hcap26 : xs18.length ≤ c20 := by obtain ⟨_, _, hv, h1, _⟩ := hO21.form; injection hv with _ _ h3; omega
  clear hRd12
  refine rw_cons (op_pv (w0 rfl) rfl rfl (pv_assign (v := (.slice A19 xs18.length c20)) rfl rfl) ?_)
  refine rw_nil (hK8 _ _ ?_)
  refine hK6 _ _ ?_
  refine cw_ret ?_
  refine fin1 rfl ?_
  exact ⟨_, _, _, (sl_as hO21 rfl), own_as (hO21.less (by omega)) rfl, by first | omega | (simp only [List.length_take, List.length_set, List.length_append, List.length_cons, List.length_nil, List.length_replicate]; omega), hc⟩
end Go.Proofs.Ytdnncgapbjnfoaa

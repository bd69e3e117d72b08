/-
  The walk of spec.DrawFilesValid, written by program: each line names the law of one operation. Conditions: those of the theorem.
-/
import Derived.Test.YthgnlljpjpklpaaProg
import Derived.Test.YthgnlljpjpklpaaDeep
import Derived.Test.YthgnlljpjpklpaaFspecl6Open
import Derived.Test.YthgnlljpjpklpaaFspecl92Files
import Derived.KernelRfl
namespace Go.Proofs.Ythgnlljpjpklpaa
open Go Go.RowKit
set_option linter.unusedVariables false
set_option linter.unusedSimpArgs false
namespace DrawFilesValid_okF
theorem C53 : Callable Try.prog 53 := ⟨_, Try.func53, by kernel_rfl, by kernel_rfl⟩
theorem C54 : Callable Try.prog 54 := ⟨_, Try.func54, by kernel_rfl, by kernel_rfl⟩
end DrawFilesValid_okF
open DrawFilesValid_okF in
set_option maxHeartbeats 4000000 in
theorem DrawFilesValid_ok (A : Option Addr) (n c : Nat) (bs : List UInt8) (w : World) (hR : RS encU 1 w w.heap.size A n bs) (hn : n ≤ c) :
    Fn Try.prog 30 [(.slice A n c)] w fun v w' => ∃ Ahs chs hs, v = .slice Ahs hs.length chs ∧ Own encF 2 w' w.heap.size 48 (.slice Ahs hs.length chs) hs ∧ hs.length ≤ 8 ∧ DX w.heap.size w'.heap.size [] w' hs ∧ SzOK hs ∧ Ch [] w w' := by
  refine fn_of (n := 6) Try.func30 rfl rfl rfl rfl ?_
  have hc : Ch [] w w := Ch.refl _ _
  refine cw_seq fun K1 hK2 => ?_
  refine cw_region fun K3 hK4 => ?_
  refine rw_cons (op_pv (w0 rfl) rfl rfl (pv_assign (v := (.slice none 0 0)) rfl rfl) ?_)
  refine rw_nil (hK4 _ _ ?_)
  refine hK2 _ _ ?_
  refine cw_seq fun K5 hK6 => ?_
  refine cw_region fun K7 hK8 => ?_
  refine rw_cons (op_pv (w0 rfl) rfl rfl (pv_move (v := (.slice A n c)) rfl rfl) ?_)
  refine rw_cons (op_call (w0 rfl) rfl rfl (rc_call C54 rfl rfl) (l6Open_ok _ _ _ _ _ (hR.more (by omega)) (by omega)) ?_)
  rintro _ w10 ⟨g9, rfl, hg11, hRd12, hch13⟩
  have hsz14 := hch13.size
  replace hR := hR.ch0 hch13
  replace hc := hc.step0 hch13
  have hlt15 := hRd12.lt
  refine rw_cons (op_call (w0 rfl) rfl rfl (rc_call C53 rfl rfl) (l92Files_ok _ _ _ hRd12 (by omega)) ?_)
  rintro _ w16 ⟨A17, c18, hs19, rfl, hO20, hD21, hl22, hZ23, hRd24, hch25⟩
  have hsz26 := hch25.size
  replace hR := hR.ch hch25 (off1 (by omega))
  replace hc := (off1 (by omega)).step hc hch25
  clear hRd12; have hRd12 := hRd24; clear hRd24
  have hub27 := hO20.lt
  have hcap28 : hs19.length ≤ c18 := by obtain ⟨_, _, hv, h1, _⟩ := hO20.form; injection hv with _ _ h3; omega
  refine rw_cons (op_pv (w0 rfl) rfl rfl (pv_assign (v := (.slice A17 hs19.length c18)) rfl rfl) ?_)
  refine rw_nil (hK8 _ _ ?_)
  refine hK6 _ _ ?_
  refine cw_ret ?_
  refine fin1 rfl ?_
  exact ⟨_, _, _, (sl_as hO20 rfl), own_as (hO20.less (by omega)) rfl, by first | omega | (simp only [List.length_take, List.length_set, List.length_append, List.length_cons, List.length_nil, List.length_replicate]; omega), (hD21.less (by omega)).bare (by omega), by first | assumption | exact SzOK.nil, hc⟩
end Go.Proofs.Ythgnlljpjpklpaa

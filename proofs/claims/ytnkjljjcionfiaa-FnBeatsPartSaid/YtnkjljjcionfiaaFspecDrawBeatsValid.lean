/-
  The walk of spec.DrawBeatsValid, written by program: each line names the law of one operation. Conditions: those of the theorem.
-/
import Derived.Test.YtnkjljjcionfiaaProg
import Derived.Test.YtnkjljjcionfiaaFspecl6Open
import Derived.Test.YtnkjljjcionfiaaFspecl92Beats
import Derived.KernelRfl
namespace Go.Proofs.Ytnkjljjcionfiaa
open Go Go.RowKit
set_option linter.unusedVariables false
set_option linter.unusedSimpArgs false
namespace DrawBeatsValid_okF
theorem C40 : Callable Try.prog 40 := ⟨_, Try.func40, by kernel_rfl, by kernel_rfl⟩
theorem C41 : Callable Try.prog 41 := ⟨_, Try.func41, by kernel_rfl, by kernel_rfl⟩
end DrawBeatsValid_okF
open DrawBeatsValid_okF in
set_option maxHeartbeats 4000000 in
theorem DrawBeatsValid_ok (A : Option Addr) (n c : Nat) (bs : List UInt8) (w : World) (hR : RS encU 1 w w.heap.size A n bs) (hn : n ≤ c) :
    Fn Try.prog 16 [(.slice A n c)] w fun v w' => ∃ A1 c1 xs, v = .slice A1 xs.length c1 ∧ Own encB 2 w' w.heap.size 39 (.slice A1 xs.length c1) xs ∧ xs.length ≤ 8 ∧ Ch [] w w' := by
  refine fn_of (n := 6) Try.func16 rfl rfl rfl rfl ?_
  have hc : Ch [] w w := Ch.refl _ _
  refine cw_seq fun K1 hK2 => ?_
  refine cw_region fun K3 hK4 => ?_
  refine rw_cons (op_pv (w0 rfl) rfl rfl (pv_assign (v := (.slice none 0 0)) rfl rfl) ?_)
  refine rw_nil (hK4 _ _ ?_)
  refine hK2 _ _ ?_
  refine cw_seq fun K5 hK6 => ?_
  refine cw_region fun K7 hK8 => ?_
  refine rw_cons (op_pv (w0 rfl) rfl rfl (pv_move (v := (.slice A n c)) rfl rfl) ?_)
  refine rw_cons (op_call (w0 rfl) rfl rfl (rc_call C41 rfl rfl) (l6Open_ok _ _ _ _ _ (hR.more (by omega)) (by omega)) ?_)
  rintro _ w10 ⟨g9, rfl, hg11, hRd12, hch13⟩
  have hsz14 := hch13.size
  replace hR := hR.ch0 hch13
  replace hc := hc.step0 hch13
  have hlt15 := hRd12.lt
  refine rw_cons (op_call (w0 rfl) rfl rfl (rc_call C40 rfl rfl) (l92Beats_ok _ _ _ hRd12 (by omega)) ?_)
  rintro _ w16 ⟨A20, c21, xs22, rfl, hO23, hl17, hRd18, hch19⟩
  have hsz25 := hch19.size
  replace hR := hR.ch hch19 (off1 (by omega))
  replace hc := (off1 (by omega)).step hc hch19
  clear hRd12; have hRd12 := hRd18; clear hRd18
  have hub24 := hO23.lt
  have hcap26 : xs22.length ≤ c21 := by obtain ⟨_, _, hv, h1, _⟩ := hO23.form; injection hv with _ _ h3; omega
  refine rw_cons (op_pv (w0 rfl) rfl rfl (pv_assign (v := (.slice A20 xs22.length c21)) rfl rfl) ?_)
  refine rw_nil (hK8 _ _ ?_)
  refine hK6 _ _ ?_
  refine cw_ret ?_
  refine fin1 rfl ?_
  exact ⟨_, _, _, rfl, hO23.less (by omega), by omega, hc⟩
end Go.Proofs.Ytnkjljjcionfiaa

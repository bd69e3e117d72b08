/-
  The walk of spec.DrawBeatsDead, written by program: each line names the law of one operation. Conditions: those of the theorem.
-/
import Derived.Test.YtnkjljjcionfiaaProg
import Derived.Test.YtnkjljjcionfiaaFspecDrawBeatsAlive
import Derived.KernelRfl
namespace Go.Proofs.Ytnkjljjcionfiaa
open Go Go.RowKit
set_option linter.unusedVariables false
set_option linter.unusedSimpArgs false
namespace DrawBeatsDead_okF
theorem C22 : Callable Try.prog 22 := ⟨_, Try.func22, by kernel_rfl, by kernel_rfl⟩
end DrawBeatsDead_okF
open DrawBeatsDead_okF in
set_option maxHeartbeats 4000000 in
theorem DrawBeatsDead_ok (A : Option Addr) (n c : Nat) (bs : List UInt8) (w : World) (hR : RS encU 1 w w.heap.size A n bs) (hn : n ≤ c) :
    Fn Try.prog 27 [(.slice A n c)] w fun v w' => ∃ A1 c1 xs a b, v = .tuple #[.slice A1 xs.length c1, .int .i64 a, .int .i64 b] ∧ Own encB 2 w' w.heap.size 39 (.slice A1 xs.length c1) xs ∧ xs.length ≤ 8 ∧ 0 ≤ a ∧ a ≤ 120 ∧ 0 ≤ b ∧ b ≤ 60 ∧ Ch [] w w' := by
  refine fn_of (n := 10) Try.func27 rfl rfl rfl rfl ?_
  have hc : Ch [] w w := Ch.refl _ _
  refine cw_seq fun K1 hK2 => ?_
  refine cw_region fun K3 hK4 => ?_
  refine rw_cons (op_pv (w0 rfl) rfl rfl (pv_assign (v := (.slice none 0 0)) rfl rfl) ?_)
  refine rw_cons (op_pv (w0 rfl) rfl rfl (pv_assign (v := (.int .i64 0)) rfl rfl) ?_)
  refine rw_cons (op_pv (w0 rfl) rfl rfl (pv_assign (v := (.int .i64 0)) rfl rfl) ?_)
  refine rw_nil (hK4 _ _ ?_)
  refine hK2 _ _ ?_
  refine cw_seq fun K5 hK6 => ?_
  refine cw_region fun K7 hK8 => ?_
  refine rw_cons (op_pv (w0 rfl) rfl rfl (pv_move (v := (.slice A n c)) rfl rfl) ?_)
  refine rw_cons (op_call (w0 rfl) rfl rfl (rc_call C22 rfl rfl) (DrawBeatsAlive_ok _ _ _ _ _ (hR.more (by omega)) (by omega)) ?_)
  rintro _ w9 ⟨A18, c19, xs20, a10, b11, rfl, hO21, hx13, hx14, hx15, hx16, hx17, hch12⟩
  have hsz23 := hch12.size
  replace hR := hR.ch0 hch12
  replace hc := hc.step0 hch12
  have hub22 := hO21.lt
  have hcap24 : xs20.length ≤ c19 := by obtain ⟨_, _, hv, h1, _⟩ := hO21.form; injection hv with _ _ h3; omega
  refine rw_cons (op_pv (w0 rfl) rfl rfl (pv_ext (v := (.slice A18 xs20.length c19)) rfl rfl rfl) ?_)
  refine rw_cons (op_pv (w0 rfl) rfl rfl (pv_ext (v := (.int .i64 a10)) rfl rfl rfl) ?_)
  refine rw_cons (op_pv (w0 rfl) rfl rfl (pv_ext (v := (.int .i64 b11)) rfl rfl rfl) ?_)
  refine rw_cons (op_pv (w0 rfl) rfl rfl (pv_assign (v := (.slice A18 xs20.length c19)) rfl rfl) ?_)
  refine rw_cons (op_pv (w0 rfl) rfl rfl (pv_assign (v := (.int .i64 a10)) rfl rfl) ?_)
  refine rw_cons (op_pv (w0 rfl) rfl rfl (pv_assign (v := (.int .i64 b11)) rfl rfl) ?_)
  refine rw_nil (hK8 _ _ ?_)
  refine hK6 _ _ ?_
  refine cw_ret ?_
  refine fin3 rfl rfl rfl ?_
  exact ⟨_, _, _, _, _, tup3 (sl_as hO21 rfl) rfl rfl, own_as (hO21.less (by omega)) rfl, by omega, by omega, by omega, by omega, by omega, hc⟩
end Go.Proofs.Ytnkjljjcionfiaa

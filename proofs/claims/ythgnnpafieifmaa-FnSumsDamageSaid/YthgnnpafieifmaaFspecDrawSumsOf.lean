/-
  The walk of spec.DrawSumsOf, written by program: each line names the law of one operation. Conditions: those of the theorem.
-/
import Derived.Test.YthgnnpafieifmaaProg
import Derived.Test.YthgnnpafieifmaaFspecl6Open
import Derived.Test.YthgnnpafieifmaaFspecl92Bytes
import Derived.KernelRfl
namespace Go.Proofs.Ythgnnpafieifmaa
open Go Go.RowKit
set_option linter.unusedVariables false
set_option linter.unusedSimpArgs false
namespace DrawSumsOf_okF
theorem C35 : Callable Try.prog 35 := ⟨_, Try.func35, by kernel_rfl, by kernel_rfl⟩
theorem C36 : Callable Try.prog 36 := ⟨_, Try.func36, by kernel_rfl, by kernel_rfl⟩
end DrawSumsOf_okF
open DrawSumsOf_okF in
set_option maxHeartbeats 4000000 in
theorem DrawSumsOf_ok (A : Option Addr) (n c : Nat) (bs : List UInt8) (w : World) (hR : RS encU 1 w w.heap.size A n bs) (hn : n ≤ c) :
    Fn Try.prog 26 [(.slice A n c)] w fun v w' => ∃ A1 c1 xs, v = .slice A1 xs.length c1 ∧ Own encI 1 w' w.heap.size 3 (.slice A1 xs.length c1) xs ∧ xs.length ≤ 17 ∧ DrawnB xs ∧ Ch [] w w' := by
  refine fn_of (n := 6) Try.func26 rfl rfl rfl rfl ?_
  have hc : Ch [] w w := Ch.refl _ _
  refine cw_seq fun K1 hK2 => ?_
  refine cw_region fun K3 hK4 => ?_
  refine rw_cons (op_pv (w0 rfl) rfl rfl (pv_assign (v := (.slice none 0 0)) rfl rfl) ?_)
  refine rw_nil (hK4 _ _ ?_)
  refine hK2 _ _ ?_
  refine cw_seq fun K5 hK6 => ?_
  refine cw_region fun K7 hK8 => ?_
  refine rw_cons (op_pv (w0 rfl) rfl rfl (pv_move (v := (.slice A n c)) rfl rfl) ?_)
  refine rw_cons (op_call (w0 rfl) rfl rfl (rc_call C36 rfl rfl) (l6Open_ok _ _ _ _ _ (hR.more (by omega)) (by omega)) ?_)
  rintro _ w10 ⟨g9, rfl, hg11, hRd12, hch13⟩
  have hsz14 := hch13.size
  replace hR := hR.ch0 hch13
  replace hc := hc.step0 hch13
  have hlt15 := hRd12.lt
  refine rw_cons (op_call (w0 rfl) rfl rfl (rc_call C35 rfl rfl) (l92Bytes_ok _ _ _ hRd12 (by omega)) ?_)
  rintro _ w16 ⟨A20, c21, xs22, rfl, hO23, hl17, hdr25, hRd18, hch19⟩
  have hsz26 := hch19.size
  replace hR := hR.ch hch19 (off1 (by omega))
  replace hc := (off1 (by omega)).step hc hch19
  clear hRd12; have hRd12 := hRd18; clear hRd18
  have hub24 := hO23.lt
  have hcap27 : xs22.length ≤ c21 := by obtain ⟨_, _, hv, h1, _⟩ := hO23.form; injection hv with _ _ h3; omega
  refine rw_cons (op_pv (w0 rfl) rfl rfl (pv_assign (v := (.slice A20 xs22.length c21)) rfl rfl) ?_)
  refine rw_nil (hK8 _ _ ?_)
  refine hK6 _ _ ?_
  refine cw_ret ?_
  refine fin1 rfl ?_
  exact ⟨_, _, _, rfl, hO23.less (by omega), by omega, hdr25, hc⟩
end Go.Proofs.Ythgnnpafieifmaa

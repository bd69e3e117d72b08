/-
  The walk of spec.l6Open, written by program: each line names the law of one operation. Conditions: those of the theorem.
-/
import Derived.Test.YtdnncgapbjnfoaaProg
import Derived.Test.YtdnncgapbjnfoaaKinds
import Derived.KernelRfl
namespace Go.Proofs.Ytdnncgapbjnfoaa
open Go Go.RowKit
set_option linter.unusedVariables false
set_option linter.unusedSimpArgs false
namespace l6Open_okF
theorem T5 : TI Try.prog 5 false (.int .u8 0) 1 1 := TI.mk' Try.underlying5 rfl (by kernel_rfl)
theorem B62_0SL (a0 : Option Addr) (n0 c0 : Nat) (u : World) : (Instr.build 62 #[(0, .slice a0 n0 c0)]).run Try.prog u = .ok (.agg #[.slice a0 n0 c0, .int .i64 0]) u := by kernel_rfl
end l6Open_okF
open l6Open_okF in
set_option maxHeartbeats 4000000 in
theorem l6Open_ok (A : Option Addr) (n c : Nat) (bs : List UInt8) (w : World) (hR : RS encU 1 w w.heap.size A n bs) (hn : n ≤ c) :
    Fn Try.prog 26 [(.slice A n c)] w fun v w' => ∃ g, v = .pointer (some ⟨g, 0, none⟩) ∧ w.heap.size ≤ g ∧ Rd 62 w' g 0 ∧ Ch [] w w' := by
  refine fn_of (n := 11) Try.func26 rfl rfl rfl rfl ?_
  have hc : Ch [] w w := Ch.refl _ _
  refine cw_seq fun K1 hK2 => ?_
  refine cw_region fun K3 hK4 => ?_
  refine rw_cons (op_pv (w0 rfl) rfl rfl (pv_assign (v := (.pointer none)) rfl rfl) ?_)
  refine rw_nil (hK4 _ _ ?_)
  refine hK2 _ _ ?_
  refine cw_seq fun K5 hK6 => ?_
  refine cw_seq fun K7 hK8 => ?_
  refine cw_region fun K9 hK10 => ?_
  refine rw_cons (op_pv (w0 rfl) rfl rfl (pv_move (v := (.slice A n c)) rfl rfl) ?_)
  refine rw_cons (op_pv (w0 rfl) rfl rfl (pv_len Try.underlying22 rfl rfl) ?_)
  refine rw_cons (op_pv (w0 rfl) rfl rfl (pv_gtr rfl rfl rfl) ?_)
  refine rw_nil (hK10 _ _ ?_)
  refine hK8 _ _ ?_
  refine cw_cond rfl (fun h11 => ?_) (fun h11 => ?_)
  · -- then
    replace h11 := of_decide_eq_true h11
    refine cw_region fun K12 hK13 => ?_
    refine rw_cons (op_pv (w0 rfl) rfl rfl (pv_move (v := (.slice A n c)) rfl rfl) ?_)
    refine rw_cons (op_pv (w0 rfl) rfl rfl (pv_upto Try.underlying22 T5 rfl rfl rfl (by omega) (by omega)) ?_)
    have hR14 : RS encU 1 w w.heap.size A 2000 (bs.take 2000) := (hR).upto (by omega)
    refine rw_cons (op_pv (w0 rfl) rfl rfl (pv_assign (v := (.slice A 2000 c)) rfl rfl) ?_)
    refine rw_nil (hK13 _ _ ?_)
    refine hK6 _ _ ?_
    refine cw_seq fun K15 hK16 => ?_
    refine cw_region fun K17 hK18 => ?_
    refine rw_cons (op_pv (w0 rfl) rfl rfl (pv_move (v := (.slice A 2000 c)) rfl rfl) ?_)
    refine rw_cons (op_pv (w0 rfl) rfl rfl (pv_build rfl rfl (B62_0SL _ _ _)) ?_)
    refine rw_cons (op_box (w0 rfl) rfl rfl rfl rfl ?_)
    rintro g20 w19 hg23 hg24 hB22 hch21
    have hsz25 := hch21.size
    replace hR := hR.ch0 hch21
    replace hR14 := hR14.ch0 hch21
    replace hc := hc.step0 hch21
    replace hB22 : Blk w19 g20 62 [(.slice A 2000 c), (.int .i64 0)] := hB22
    refine rw_cons (op_pv (w0 rfl) rfl rfl (pv_assign (v := (.pointer (some (⟨g20, 0, none⟩)))) rfl rfl) ?_)
    refine rw_nil (hK18 _ _ ?_)
    refine hK16 _ _ ?_
    refine cw_ret ?_
    refine fin1 rfl ?_
    exact ⟨_, rfl, by omega, ⟨_, _, _, _, _, hB22, by omega, hR14.more (by omega), by omega, by omega⟩, hc⟩
  · -- else
    replace h11 := of_decide_eq_false h11
    refine cw_skip ?_
    refine hK6 _ _ ?_
    refine cw_seq fun K26 hK27 => ?_
    refine cw_region fun K28 hK29 => ?_
    refine rw_cons (op_pv (w0 rfl) rfl rfl (pv_move (v := (.slice A n c)) rfl rfl) ?_)
    refine rw_cons (op_pv (w0 rfl) rfl rfl (pv_build rfl rfl (B62_0SL _ _ _)) ?_)
    refine rw_cons (op_box (w0 rfl) rfl rfl rfl rfl ?_)
    rintro g31 w30 hg34 hg35 hB33 hch32
    have hsz36 := hch32.size
    replace hR := hR.ch0 hch32
    replace hc := hc.step0 hch32
    replace hB33 : Blk w30 g31 62 [(.slice A n c), (.int .i64 0)] := hB33
    refine rw_cons (op_pv (w0 rfl) rfl rfl (pv_assign (v := (.pointer (some (⟨g31, 0, none⟩)))) rfl rfl) ?_)
    refine rw_nil (hK29 _ _ ?_)
    refine hK27 _ _ ?_
    refine cw_ret ?_
    refine fin1 rfl ?_
    exact ⟨_, rfl, by omega, ⟨_, _, _, _, _, hB33, by omega, hR.more (by omega), by omega, by omega⟩, hc⟩
end Go.Proofs.Ytdnncgapbjnfoaa

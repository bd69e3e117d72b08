/-
  The walk of spec.NodeValid, written by program: each line names the law of one operation. Conditions: those of the theorem.
-/
import Derived.Test.YtpnenfglogggmaaProg
import Derived.Test.YtpnenfglogggmaaNode
import Derived.Test.YtpnenfglogggmaaFspecl6In
import Derived.Test.YtpnenfglogggmaaFspecLogValid
import Derived.KernelRfl
namespace Go.Proofs.Ytpnenfglogggmaa
open Go Go.RowKit
set_option linter.unusedVariables false
set_option linter.unusedSimpArgs false
namespace NodeValid_sF
theorem T3 : TI Try.prog 3 false (.int .i64 0) 1 8 := TI.mk' Try.underlying3 rfl (by kernel_rfl)
theorem T34 : TI Try.prog 34 false (.slice none 0 0) 1 24 := TI.mk' Try.underlying34 rfl (by kernel_rfl)
theorem F41_0 : FldOK Try.prog 41 0 0 := ⟨_, _, 0, Try.underlying41, rfl, rfl, by kernel_rfl⟩
theorem F41_1 : FldOK Try.prog 41 1 1 := ⟨_, _, 0, Try.underlying41, rfl, rfl, by kernel_rfl⟩
theorem F41_2 : FldOK Try.prog 41 2 2 := ⟨_, _, 0, Try.underlying41, rfl, rfl, by kernel_rfl⟩
theorem C28 : Callable Try.prog 28 := ⟨_, Try.func28, by kernel_rfl, by kernel_rfl⟩
theorem C41 : Callable Try.prog 41 := ⟨_, Try.func41, by kernel_rfl, by kernel_rfl⟩
end NodeValid_sF
open NodeValid_sF in
set_option maxHeartbeats 4000000 in
theorem NodeValid_s (id : Int) (Alog : Option Addr) (nlog clog : Nat) (log : List Bt) (dn : Int) (w : World) (hRlog : RS encB 2 w w.heap.size Alog nlog log) (hnlog : nlog ≤ clog) (hNlog : nlog ≤ 1099511627776) :
    Fn Try.prog 44 [(.agg #[(.int .i64 id), (.slice Alog nlog clog), (.int .i64 dn)])] w fun v w' => v = .bool (dec (NodeOK id log dn)) ∧ Ch [] w w' := by
  have hlenlog := hRlog.len
  refine fn_of (n := 19) Try.func44 rfl rfl rfl rfl ?_
  have hc : Ch [] w w := Ch.refl _ _
  refine cw_seq fun K1 hK2 => ?_
  refine cw_region fun K3 hK4 => ?_
  refine rw_cons (op_box (w0 rfl) rfl rfl rfl rfl ?_)
  rintro g6 w5 hg9 hg10 hB8 hch7
  have hsz11 := hch7.size
  replace hRlog := hRlog.ch0 hch7
  replace hc := hc.step0 hch7
  replace hB8 : Blk w5 g6 41 [(.int .i64 id), (.slice Alog nlog clog), (.int .i64 dn)] := hB8
  refine rw_cons (op_pv (w0 rfl) rfl rfl (pv_assign (v := (.bool false)) rfl rfl) ?_)
  refine rw_nil (hK4 _ _ ?_)
  refine hK2 _ _ ?_
  refine cw_seq fun K12 hK13 => ?_
  refine cw_region fun K14 hK15 => ?_
  refine rw_cons (op_pv (w0 rfl) rfl rfl (pv_fld F41_0 rfl rfl) ?_)
  refine rw_cons (op_lv (w0 rfl) rfl rfl (lv_load T3 rfl rfl (hB8.cellA (i := 0) rfl)) ?_)
  refine rw_cons (op_call (w0 rfl) rfl rfl (rc_call C28 rfl rfl) (l6In_ok id 1 99 _  ) ?_)
  rintro _ w16 ⟨rfl, hch17⟩
  have hsz18 := hch17.size
  replace hRlog := hRlog.ch0 hch17
  replace hB8 := hB8.ch0 hch17
  replace hc := hc.step0 hch17
  refine rw_cons (op_pv (w0 rfl) rfl rfl (pv_move (v := (.bool (dec (1 ≤ id ∧ id ≤ 99)))) rfl rfl) ?_)
  refine rw_split 6 rfl (fun hb19 => ?_) (fun hb19 => ?_)
  · -- yes
    replace hb19 := dec_t hb19
    refine rw_cons (op_pv (w1y rfl rfl rfl rfl) rfl rfl (pv_fld F41_1 rfl rfl) ?_)
    refine rw_cons (op_lv (w1y rfl rfl rfl rfl) rfl rfl (lv_load T34 rfl rfl (hB8.cellA (i := 1) rfl)) ?_)
    refine rw_cons (op_call (w1y rfl rfl rfl rfl) rfl rfl (rc_call C41 rfl rfl) (LogValid_s _ _ _ log _ (hRlog.more (by omega)) (by omega)) ?_)
    rintro _ w20 ⟨rfl, hch21⟩
    have hsz22 := hch21.size
    replace hRlog := hRlog.ch0 hch21
    replace hB8 := hB8.ch0 hch21
    replace hc := hc.step0 hch21
    refine rw_cons (op_pv (w0 rfl) rfl rfl (pv_pickT (v := (.bool (dec (LogOK log)))) rfl rfl rfl) ?_)
    refine rw_cons (op_pv (w0 rfl) rfl rfl (pv_move (v := (.bool (dec (LogOK log)))) rfl rfl) ?_)
    refine rw_split 11 rfl (fun hb23 => ?_) (fun hb23 => ?_)
    · -- yes
      replace hb23 := dec_t hb23
      refine rw_cons (op_pv (w1y rfl rfl rfl rfl) rfl rfl (pv_fld F41_2 rfl rfl) ?_)
      refine rw_cons (op_lv (w1y rfl rfl rfl rfl) rfl rfl (lv_load T3 rfl rfl (hB8.cellA (i := 2) rfl)) ?_)
      refine rw_cons (op_pv (w1y rfl rfl rfl rfl) rfl rfl (pv_fld F41_1 rfl rfl) ?_)
      refine rw_cons (op_lv (w1y rfl rfl rfl rfl) rfl rfl (lv_load T34 rfl rfl (hB8.cellA (i := 1) rfl)) ?_)
      refine rw_cons (op_pv (w1y rfl rfl rfl rfl) rfl rfl (pv_len Try.underlying34 rfl rfl) ?_)
      refine rw_cons (op_call (w1y rfl rfl rfl rfl) rfl rfl (rc_call C28 rfl rfl) (l6In_ok dn 0 (nlog : Int) _  ) ?_)
      rintro _ w24 ⟨rfl, hch25⟩
      have hsz26 := hch25.size
      replace hRlog := hRlog.ch0 hch25
      replace hB8 := hB8.ch0 hch25
      replace hc := hc.step0 hch25
      refine rw_cons (op_pv (w0 rfl) rfl rfl (pv_pickT (v := (.bool (dec (0 ≤ dn ∧ dn ≤ (nlog : Int))))) rfl rfl rfl) ?_)
      refine rw_cons (op_pv (w0 rfl) rfl rfl (pv_assign (v := (.bool (dec (0 ≤ dn ∧ dn ≤ (nlog : Int))))) rfl rfl) ?_)
      refine rw_nil (hK15 _ _ ?_)
      refine hK13 _ _ ?_
      refine cw_ret ?_
      refine fin1 rfl ?_
      exact ⟨(bv (dec_congr ⟨fun h => ⟨by omega, by assumption, by omega⟩, fun h => by have := h.2.2; omega⟩)), hc⟩
    · -- no
      replace hb23 := dec_f hb23
      refine rw_cons (op_pass (w1n1 rfl rfl rfl rfl) rfl rfl ?_)
      refine rw_cons (op_pass (w1n1 rfl rfl rfl rfl) rfl rfl ?_)
      refine rw_cons (op_pass (w1n1 rfl rfl rfl rfl) rfl rfl ?_)
      refine rw_cons (op_pass (w1n1 rfl rfl rfl rfl) rfl rfl ?_)
      refine rw_cons (op_pass (w1n1 rfl rfl rfl rfl) rfl rfl ?_)
      refine rw_cons (op_pass (w1n1 rfl rfl rfl rfl) rfl rfl ?_)
      refine rw_cons (op_pv (w0 rfl) rfl rfl (pv_pickF (v := (.bool false)) rfl rfl rfl) ?_)
      refine rw_cons (op_pv (w0 rfl) rfl rfl (pv_assign (v := (.bool false)) rfl rfl) ?_)
      refine rw_nil (hK15 _ _ ?_)
      refine hK13 _ _ ?_
      refine cw_ret ?_
      refine fin1 rfl ?_
      exact ⟨(bvf (by rintro ⟨h1, h2, h3⟩; first | contradiction | omega)), hc⟩
  · -- no
    replace hb19 := dec_f hb19
    refine rw_cons (op_pass (w1n1 rfl rfl rfl rfl) rfl rfl ?_)
    refine rw_cons (op_pass (w1n1 rfl rfl rfl rfl) rfl rfl ?_)
    refine rw_cons (op_pass (w1n1 rfl rfl rfl rfl) rfl rfl ?_)
    refine rw_cons (op_pv (w0 rfl) rfl rfl (pv_pickF (v := (.bool false)) rfl rfl rfl) ?_)
    refine rw_cons (op_pv (w0 rfl) rfl rfl (pv_move (v := (.bool false)) rfl rfl) ?_)
    refine rw_cons (op_pass (w1n1 rfl rfl rfl rfl) rfl rfl ?_)
    refine rw_cons (op_pass (w1n1 rfl rfl rfl rfl) rfl rfl ?_)
    refine rw_cons (op_pass (w1n1 rfl rfl rfl rfl) rfl rfl ?_)
    refine rw_cons (op_pass (w1n1 rfl rfl rfl rfl) rfl rfl ?_)
    refine rw_cons (op_pass (w1n1 rfl rfl rfl rfl) rfl rfl ?_)
    refine rw_cons (op_pass (w1n1 rfl rfl rfl rfl) rfl rfl ?_)
    refine rw_cons (op_pv (w0 rfl) rfl rfl (pv_pickF (v := (.bool false)) rfl rfl rfl) ?_)
    refine rw_cons (op_pv (w0 rfl) rfl rfl (pv_assign (v := (.bool false)) rfl rfl) ?_)
    refine rw_nil (hK15 _ _ ?_)
    refine hK13 _ _ ?_
    refine cw_ret ?_
    refine fin1 rfl ?_
    exact ⟨(bvf (by rintro ⟨h1, h2, h3⟩; first | contradiction | omega)), hc⟩
end Go.Proofs.Ytpnenfglogggmaa

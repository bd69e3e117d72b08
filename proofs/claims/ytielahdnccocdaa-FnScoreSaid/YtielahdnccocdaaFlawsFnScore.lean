/-
  The walk of laws.FnScore, written by program: each line names the law of one operation. Conditions: those of the theorem.
-/
import Derived.Test.YtielahdnccocdaaProg
import Derived.Test.YtielahdnccocdaaFspecDrawPlaceScore
import Derived.Test.YtielahdnccocdaaFimplPlaceScore
import Derived.Test.YtielahdnccocdaaFspecPlaceScore
import Derived.KernelRfl
namespace Go.Proofs.Ytielahdnccocdaa
open Go Go.RowKit
set_option linter.unusedVariables false
namespace FnScore_okF
theorem C13 : Callable Try.prog 13 := ⟨_, Try.func13, by kernel_rfl, by kernel_rfl⟩
theorem C14 : Callable Try.prog 14 := ⟨_, Try.func14, by kernel_rfl, by kernel_rfl⟩
theorem C19 : Callable Try.prog 19 := ⟨_, Try.func19, by kernel_rfl, by kernel_rfl⟩
end FnScore_okF
open FnScore_okF in
set_option maxHeartbeats 4000000 in
theorem FnScore_ok (A0 : Option Addr) (n0 c0 : Nat) (xs0 : List UInt8) (w : World) (hR0 : RS encU 1 w w.heap.size A0 n0 xs0) (hn0 : n0 ≤ c0) :
    Fn Try.prog 5 [(.slice A0 n0 c0)] w fun v w' => v = .bool true ∧ Ch [] w w' := by
  have hlen0 := hR0.len
  refine fn_of (n := 37) Try.func5 rfl rfl rfl rfl ?_
  have hc : Ch [] w w := Ch.refl _ _
  refine cw_seq fun K1 hK2 => ?_
  refine cw_region fun K3 hK4 => ?_
  refine rw_cons (op_pv (w0 rfl) rfl rfl (pv_assign rfl rfl) ?_)
  refine rw_nil (hK4 _ _ ?_)
  refine hK2 _ _ ?_
  refine cw_seq fun K5 hK6 => ?_
  refine cw_seq fun K7 hK8 => ?_
  refine cw_region fun K9 hK10 => ?_
  refine rw_cons (op_pv (w0 rfl) rfl rfl (pv_move rfl rfl) ?_)
  refine rw_cons (op_pv (w0 rfl) rfl rfl (pv_len Try.underlying28 rfl rfl) ?_)
  refine rw_cons (op_pv (w0 rfl) rfl rfl (pv_gtr rfl rfl rfl) ?_)
  refine rw_nil (hK10 _ _ ?_)
  refine hK8 _ _ ?_
  refine cw_cond rfl (fun h11 => ?_) (fun h11 => ?_)
  · -- then
    replace h11 := of_decide_eq_true h11
    refine cw_seq fun K12 hK13 => ?_
    refine cw_region fun K14 hK15 => ?_
    refine rw_cons (op_pv (w0 rfl) rfl rfl (pv_assign rfl rfl) ?_)
    refine rw_nil (hK15 _ _ ?_)
    refine hK13 _ _ ?_
    refine cw_ret ?_
    refine fin1 rfl ?_
    first
      | exact ⟨rfl, hc⟩
      | (exfalso; omega)
      | exact ⟨congrArg Value.bool (decide_eq_true (by omega)), hc⟩
      | exact absurd rfl ‹_ ≠ _›
      | (exfalso; simp_all; done)
  · -- else
    replace h11 := of_decide_eq_false h11
    refine cw_skip ?_
    refine hK6 _ _ ?_
    refine cw_seq fun K16 hK17 => ?_
    refine cw_region fun K18 hK19 => ?_
    refine rw_cons (op_pv (w0 rfl) rfl rfl (pv_move rfl rfl) ?_)
    refine rw_cons (op_call (w0 rfl) rfl rfl (rc_call C19 rfl rfl) (DrawPlaceScore_ok _ _ _ _ _ (hR0.more (by omega)) (by omega)) ?_)
    rintro _ w22 ⟨a20, b21, rfl, hch23⟩
    have hsz24 := hch23.size
    replace hR0 := hR0.ch0 hch23
    replace hc := hc.step0 hch23
    refine rw_cons (op_pv (w0 rfl) rfl rfl (pv_move rfl rfl) ?_)
    refine rw_cons (op_pv (w0 rfl) rfl rfl (pv_ext rfl rfl rfl) ?_)
    refine rw_cons (op_pv (w0 rfl) rfl rfl (pv_ext rfl rfl rfl) ?_)
    refine rw_cons (op_pv (w0 rfl) rfl rfl (pv_assign rfl rfl) ?_)
    refine rw_cons (op_pv (w0 rfl) rfl rfl (pv_assign rfl rfl) ?_)
    refine rw_nil (hK19 _ _ ?_)
    refine hK17 _ _ ?_
    refine cw_seq fun K25 hK26 => ?_
    refine cw_region fun K27 hK28 => ?_
    refine rw_cons (op_pv (w0 rfl) rfl rfl (pv_move rfl rfl) ?_)
    refine rw_cons (op_pv (w0 rfl) rfl rfl (pv_move rfl rfl) ?_)
    refine rw_cons (op_call (w0 rfl) rfl rfl (rc_call C14 rfl rfl) (PlaceScore_i a20 b21 _  ) ?_)
    rintro _ w29 ⟨rfl, hch30⟩
    have hsz31 := hch30.size
    replace hR0 := hR0.ch0 hch30
    replace hc := hc.step0 hch30
    have hsb32 := scoreOf_bd a20 b21
    refine rw_cons (op_pv (w0 rfl) rfl rfl (pv_assign rfl rfl) ?_)
    refine rw_nil (hK28 _ _ ?_)
    refine hK26 _ _ ?_
    refine cw_seq fun K33 hK34 => ?_
    refine cw_region fun K35 hK36 => ?_
    refine rw_cons (op_pv (w0 rfl) rfl rfl (pv_move rfl rfl) ?_)
    refine rw_cons (op_pv (w0 rfl) rfl rfl (pv_move rfl rfl) ?_)
    refine rw_cons (op_call (w0 rfl) rfl rfl (rc_call C13 rfl rfl) (PlaceScore_s a20 b21 _  ) ?_)
    rintro _ w37 ⟨rfl, hch38⟩
    have hsz39 := hch38.size
    replace hR0 := hR0.ch0 hch38
    replace hc := hc.step0 hch38
    have hsb40 := scoreOf_bd a20 b21
    refine rw_cons (op_pv (w0 rfl) rfl rfl (pv_assign rfl rfl) ?_)
    refine rw_nil (hK36 _ _ ?_)
    refine hK34 _ _ ?_
    refine cw_seq fun K41 hK42 => ?_
    refine cw_seq fun K43 hK44 => ?_
    refine cw_region fun K45 hK46 => ?_
    refine rw_cons (op_pv (w0 rfl) rfl rfl (pv_move rfl rfl) ?_)
    refine rw_cons (op_pv (w0 rfl) rfl rfl (pv_move rfl rfl) ?_)
    refine rw_cons (op_pv (w0 rfl) rfl rfl (pv_neq rfl rfl rfl) ?_)
    refine rw_cons (op_pv (w0 rfl) rfl rfl (pv_move rfl rfl) ?_)
    refine rw_split 24 rfl (fun hb47 => ?_) (fun hb47 => ?_)
    · -- yes
      replace hb47 := of_decide_eq_true hb47
      refine rw_cons (op_pass (w1n2 rfl rfl rfl rfl) rfl rfl ?_)
      refine rw_cons (op_pass (w1n2 rfl rfl rfl rfl) rfl rfl ?_)
      refine rw_cons (op_pv (w0 rfl) rfl rfl (pv_pickT rfl rfl rfl) ?_)
      refine rw_nil (hK46 _ _ ?_)
      refine hK44 _ _ ?_
      refine cw_cond rfl (fun h48 => ?_) (fun h48 => ?_)
      · -- then
        clear h48
        refine cw_seq fun K49 hK50 => ?_
        refine cw_region fun K51 hK52 => ?_
        refine rw_cons (op_pv (w0 rfl) rfl rfl (pv_move rfl rfl) ?_)
        refine rw_cons (op_pv (w0 rfl) rfl rfl (pv_move rfl rfl) ?_)
        refine rw_cons (op_pv (w0 rfl) rfl rfl (pv_eql rfl rfl rfl) ?_)
        refine rw_cons (op_pv (w0 rfl) rfl rfl (pv_assign rfl rfl) ?_)
        refine rw_nil (hK52 _ _ ?_)
        refine hK50 _ _ ?_
        refine cw_ret ?_
        refine fin1 rfl ?_
        first
          | exact ⟨rfl, hc⟩
          | (exfalso; omega)
          | exact ⟨congrArg Value.bool (decide_eq_true (by omega)), hc⟩
          | exact absurd rfl ‹_ ≠ _›
          | (exfalso; simp_all; done)
      · -- else
        cases h48
    · -- no
      replace hb47 := of_decide_eq_false hb47
      refine rw_cons (op_pv (w1y rfl rfl rfl rfl) rfl rfl (pv_move rfl rfl) ?_)
      refine rw_cons (op_pv (w1y rfl rfl rfl rfl) rfl rfl (pv_lss rfl rfl rfl) ?_)
      refine rw_cons (op_pv (w0 rfl) rfl rfl (pv_pickF rfl rfl rfl) ?_)
      refine rw_nil (hK46 _ _ ?_)
      refine hK44 _ _ ?_
      refine cw_cond rfl (fun h53 => ?_) (fun h53 => ?_)
      · -- then
        replace h53 := of_decide_eq_true h53
        refine cw_seq fun K54 hK55 => ?_
        refine cw_region fun K56 hK57 => ?_
        refine rw_cons (op_pv (w0 rfl) rfl rfl (pv_move rfl rfl) ?_)
        refine rw_cons (op_pv (w0 rfl) rfl rfl (pv_move rfl rfl) ?_)
        refine rw_cons (op_pv (w0 rfl) rfl rfl (pv_eql rfl rfl rfl) ?_)
        refine rw_cons (op_pv (w0 rfl) rfl rfl (pv_assign rfl rfl) ?_)
        refine rw_nil (hK57 _ _ ?_)
        refine hK55 _ _ ?_
        refine cw_ret ?_
        refine fin1 rfl ?_
        first
          | exact ⟨rfl, hc⟩
          | (exfalso; omega)
          | exact ⟨congrArg Value.bool (decide_eq_true (by omega)), hc⟩
          | exact absurd rfl ‹_ ≠ _›
          | (exfalso; simp_all; done)
      · -- else
        replace h53 := of_decide_eq_false h53
        refine cw_skip ?_
        refine hK42 _ _ ?_
        refine cw_seq fun K58 hK59 => ?_
        refine cw_region fun K60 hK61 => ?_
        refine rw_cons (op_pv (w0 rfl) rfl rfl (pv_move rfl rfl) ?_)
        refine rw_cons (op_pv (w0 rfl) rfl rfl (pv_geq rfl rfl rfl) ?_)
        refine rw_cons (op_pv (w0 rfl) rfl rfl (pv_move rfl rfl) ?_)
        refine rw_split 33 rfl (fun hb62 => ?_) (fun hb62 => ?_)
        · -- yes
          replace hb62 := of_decide_eq_true hb62
          refine rw_cons (op_pv (w1y rfl rfl rfl rfl) rfl rfl (pv_move rfl rfl) ?_)
          refine rw_cons (op_pv (w1y rfl rfl rfl rfl) rfl rfl (pv_lss rfl rfl rfl) ?_)
          refine rw_cons (op_pv (w0 rfl) rfl rfl (pv_pickT rfl rfl rfl) ?_)
          refine rw_cons (op_pv (w0 rfl) rfl rfl (pv_assign rfl rfl) ?_)
          refine rw_nil (hK61 _ _ ?_)
          refine hK59 _ _ ?_
          refine cw_ret ?_
          refine fin1 rfl ?_
          first
            | exact ⟨rfl, hc⟩
            | (exfalso; omega)
            | exact ⟨congrArg Value.bool (decide_eq_true (by omega)), hc⟩
            | exact absurd rfl ‹_ ≠ _›
            | (exfalso; simp_all; done)
        · -- no
          replace hb62 := of_decide_eq_false hb62
          refine rw_cons (op_pass (w1n1 rfl rfl rfl rfl) rfl rfl ?_)
          refine rw_cons (op_pass (w1n1 rfl rfl rfl rfl) rfl rfl ?_)
          refine rw_cons (op_pv (w0 rfl) rfl rfl (pv_pickF rfl rfl rfl) ?_)
          refine rw_cons (op_pv (w0 rfl) rfl rfl (pv_assign rfl rfl) ?_)
          refine rw_nil (hK61 _ _ ?_)
          refine hK59 _ _ ?_
          refine cw_ret ?_
          refine fin1 rfl ?_
          first
            | exact ⟨rfl, hc⟩
            | (exfalso; omega)
            | exact ⟨congrArg Value.bool (decide_eq_true (by omega)), hc⟩
            | exact absurd rfl ‹_ ≠ _›
            | (exfalso; simp_all; done)
end Go.Proofs.Ytielahdnccocdaa

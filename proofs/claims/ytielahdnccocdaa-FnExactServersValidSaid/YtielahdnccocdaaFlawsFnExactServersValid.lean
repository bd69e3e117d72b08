/-
  The walk of laws.FnExactServersValid, written by program: each line names the law of one operation. Conditions: those of the theorem.
-/
import Derived.Test.YtielahdnccocdaaProg
import Derived.Test.YtielahdnccocdaaFlawstoIntS
import Derived.Test.YtielahdnccocdaaFlawseqIntS
import Derived.Test.YtielahdnccocdaaFimplServersValid
import Derived.Test.YtielahdnccocdaaFspecServersValid
import Derived.KernelRfl
namespace Go.Proofs.Ytielahdnccocdaa
open Go Go.RowKit
set_option linter.unusedVariables false
namespace FnExactServersValid_okF
theorem C15 : Callable Try.prog 15 := ⟨_, Try.func15, by kernel_rfl, by kernel_rfl⟩
theorem C16 : Callable Try.prog 16 := ⟨_, Try.func16, by kernel_rfl, by kernel_rfl⟩
theorem C17 : Callable Try.prog 17 := ⟨_, Try.func17, by kernel_rfl, by kernel_rfl⟩
theorem C18 : Callable Try.prog 18 := ⟨_, Try.func18, by kernel_rfl, by kernel_rfl⟩
end FnExactServersValid_okF
open FnExactServersValid_okF in
set_option maxHeartbeats 4000000 in
theorem FnExactServersValid_ok (A0 : Option Addr) (n0 c0 : Nat) (xs0 : List Int) (w : World) (hR0 : RS encI 1 w w.heap.size A0 n0 xs0) (hn0 : n0 ≤ c0) :
    Fn Try.prog 4 [(.slice A0 n0 c0)] w fun v w' => v = .bool true ∧ Ch [] w w' := by
  have hlen0 := hR0.len
  refine fn_of (n := 24) Try.func4 rfl rfl rfl rfl ?_
  have hc : Ch [] w w := Ch.refl _ _
  refine cw_seq fun K1 hK2 => ?_
  refine cw_region fun K3 hK4 => ?_
  refine rw_cons (op_pv (w0 rfl) rfl rfl (pv_assign rfl rfl) ?_)
  refine rw_nil (hK4 _ _ ?_)
  refine hK2 _ _ ?_
  refine cw_seq fun K5 hK6 => ?_
  refine cw_seq fun K7 hK8 => ?_
  refine cw_region fun K9 hK10 => ?_
  refine rw_cons (op_pv (w0 rfl) rfl rfl (pv_move rfl rfl) ?_)
  refine rw_cons (op_pv (w0 rfl) rfl rfl (pv_len Try.underlying24 rfl rfl) ?_)
  refine rw_cons (op_pv (w0 rfl) rfl rfl (pv_gtr rfl rfl rfl) ?_)
  refine rw_nil (hK10 _ _ ?_)
  refine hK8 _ _ ?_
  refine cw_cond rfl (fun h11 => ?_) (fun h11 => ?_)
  · -- then
    replace h11 := of_decide_eq_true h11
    refine cw_seq fun K12 hK13 => ?_
    refine cw_region fun K14 hK15 => ?_
    refine rw_cons (op_pv (w0 rfl) rfl rfl (pv_assign rfl rfl) ?_)
    refine rw_nil (hK15 _ _ ?_)
    refine hK13 _ _ ?_
    refine cw_ret ?_
    refine fin1 rfl ?_
    first
      | exact ⟨rfl, hc⟩
      | (exfalso; omega)
      | exact ⟨congrArg Value.bool (decide_eq_true (by omega)), hc⟩
      | exact absurd rfl ‹_ ≠ _›
      | (exfalso; simp_all; done)
  · -- else
    replace h11 := of_decide_eq_false h11
    refine cw_skip ?_
    refine hK6 _ _ ?_
    refine cw_seq fun K16 hK17 => ?_
    refine cw_region fun K18 hK19 => ?_
    refine rw_cons (op_pv (w0 rfl) rfl rfl (pv_move rfl rfl) ?_)
    refine rw_cons (op_call (w0 rfl) rfl rfl (rc_call C16 rfl rfl) (toIntS_ok _ _ _ _ _ (hR0.more (by omega)) (by omega)) ?_)
    rintro _ w20 ⟨v21, rfl, hO22, hch23⟩
    have hsz24 := hch23.size
    replace hR0 := hR0.ch0 hch23
    replace hc := hc.step0 hch23
    obtain ⟨A25, c26, hv27, hle28, hmx29⟩ := hO22.form; subst hv27
    have hub30 := hO22.lt
    refine rw_cons (op_call (w0 rfl) rfl rfl (rc_call C15 rfl rfl) (ServersValid_s _ _ _ xs0 _ (hO22.rs (fun _ => rfl)) (by omega)) ?_)
    rintro _ w31 ⟨rfl, hch32⟩
    have hsz33 := hch32.size
    replace hR0 := hR0.ch0 hch32
    replace hO22 := hO22.ch0 hch32
    replace hc := hc.step0 hch32
    refine rw_cons (op_pv (w0 rfl) rfl rfl (pv_assign rfl rfl) ?_)
    refine rw_nil (hK19 _ _ ?_)
    refine hK17 _ _ ?_
    refine cw_seq fun K34 hK35 => ?_
    refine cw_region fun K36 hK37 => ?_
    refine rw_cons (op_pv (w0 rfl) rfl rfl (pv_move rfl rfl) ?_)
    refine rw_cons (op_call (w0 rfl) rfl rfl (rc_call C16 rfl rfl) (toIntS_ok _ _ _ _ _ (hR0.more (by omega)) (by omega)) ?_)
    rintro _ w38 ⟨v39, rfl, hO40, hch41⟩
    have hsz42 := hch41.size
    replace hR0 := hR0.ch0 hch41
    replace hO22 := hO22.ch0 hch41
    replace hc := hc.step0 hch41
    obtain ⟨A43, c44, hv45, hle46, hmx47⟩ := hO40.form; subst hv45
    have hub48 := hO40.lt
    refine rw_cons (op_pv (w0 rfl) rfl rfl (pv_assign rfl rfl) ?_)
    refine rw_nil (hK37 _ _ ?_)
    refine hK35 _ _ ?_
    refine cw_seq fun K49 hK50 => ?_
    refine cw_region fun K51 hK52 => ?_
    refine rw_cons (op_pv (w0 rfl) rfl rfl (pv_move rfl rfl) ?_)
    refine rw_cons (op_call (w0 rfl) rfl rfl (rc_call C17 rfl rfl) (ServersValid_i _ _ _ xs0 _ (hO40.rs (fun _ => rfl)) (by omega)) ?_)
    rintro _ w53 ⟨rfl, hch54⟩
    have hsz55 := hch54.size
    replace hR0 := hR0.ch0 hch54
    replace hO22 := hO22.ch0 hch54
    replace hO40 := hO40.ch0 hch54
    replace hc := hc.step0 hch54
    refine rw_cons (op_pv (w0 rfl) rfl rfl (pv_assign rfl rfl) ?_)
    refine rw_nil (hK52 _ _ ?_)
    refine hK50 _ _ ?_
    refine cw_seq fun K56 hK57 => ?_
    refine cw_seq fun K58 hK59 => ?_
    refine cw_region fun K60 hK61 => ?_
    refine rw_cons (op_pv (w0 rfl) rfl rfl (pv_move rfl rfl) ?_)
    refine rw_cons (op_pv (w0 rfl) rfl rfl (pv_move rfl rfl) ?_)
    refine rw_cons (op_pv (w0 rfl) rfl rfl (pv_neqB Try.underlying4 rfl rfl rfl) ?_)
    refine rw_nil (hK61 _ _ ?_)
    refine hK59 _ _ ?_
    refine cw_cond rfl (fun h62 => ?_) (fun h62 => ?_)
    · -- then
      replace h62 := not_t h62
      replace h62 := ne_of_beq_false h62
      refine cw_seq fun K63 hK64 => ?_
      refine cw_region fun K65 hK66 => ?_
      refine rw_cons (op_pv (w0 rfl) rfl rfl (pv_assign rfl rfl) ?_)
      refine rw_nil (hK66 _ _ ?_)
      refine hK64 _ _ ?_
      refine cw_ret ?_
      refine fin1 rfl ?_
      first
        | exact ⟨rfl, hc⟩
        | (exfalso; omega)
        | exact ⟨congrArg Value.bool (decide_eq_true (by omega)), hc⟩
        | exact absurd rfl ‹_ ≠ _›
        | (exfalso; simp_all; done)
    · -- else
      replace h62 := not_f h62
      replace h62 := eq_of_beq h62
      refine cw_skip ?_
      refine hK57 _ _ ?_
      refine cw_seq fun K67 hK68 => ?_
      refine cw_seq fun K69 hK70 => ?_
      refine cw_region fun K71 hK72 => ?_
      refine rw_cons (op_pv (w0 rfl) rfl rfl (pv_move rfl rfl) ?_)
      refine rw_cons (op_pv (w0 rfl) rfl rfl (pv_move rfl rfl) ?_)
      refine rw_cons (op_call (w0 rfl) rfl rfl (rc_call C16 rfl rfl) (toIntS_ok _ _ _ _ _ (hR0.more (by omega)) (by omega)) ?_)
      rintro _ w73 ⟨v74, rfl, hO75, hch76⟩
      have hsz77 := hch76.size
      replace hR0 := hR0.ch0 hch76
      replace hO22 := hO22.ch0 hch76
      replace hO40 := hO40.ch0 hch76
      replace hc := hc.step0 hch76
      obtain ⟨A78, c79, hv80, hle81, hmx82⟩ := hO75.form; subst hv80
      have hub83 := hO75.lt
      refine rw_cons (op_call (w0 rfl) rfl rfl (rc_call C18 rfl rfl) (eqIntS_ok _ _ _ _ _ _ xs0 xs0 _ (hO40.rs (fun _ => rfl)) (hO75.rs (fun _ => rfl)) (by omega)) ?_)
      rintro _ w84 ⟨rfl, hch85⟩
      have hsz86 := hch85.size
      replace hR0 := hR0.ch0 hch85
      replace hO22 := hO22.ch0 hch85
      replace hO40 := hO40.ch0 hch85
      replace hO75 := hO75.ch0 hch85
      replace hc := hc.step0 hch85
      refine rw_cons (op_pv (w0 rfl) rfl rfl (pv_not rfl rfl) ?_)
      refine rw_nil (hK72 _ _ ?_)
      refine hK70 _ _ ?_
      refine cw_cond rfl (fun h87 => ?_) (fun h87 => ?_)
      · -- then
        replace h87 := not_t h87
        replace h87 := dec_f h87
        refine cw_seq fun K88 hK89 => ?_
        refine cw_region fun K90 hK91 => ?_
        refine rw_cons (op_pv (w0 rfl) rfl rfl (pv_assign rfl rfl) ?_)
        refine rw_nil (hK91 _ _ ?_)
        refine hK89 _ _ ?_
        refine cw_ret ?_
        refine fin1 rfl ?_
        first
          | exact ⟨rfl, hc⟩
          | (exfalso; omega)
          | exact ⟨congrArg Value.bool (decide_eq_true (by omega)), hc⟩
          | exact absurd rfl ‹_ ≠ _›
          | (exfalso; simp_all; done)
      · -- else
        replace h87 := not_f h87
        replace h87 := dec_t h87
        refine cw_skip ?_
        refine hK68 _ _ ?_
        refine cw_seq fun K92 hK93 => ?_
        refine cw_region fun K94 hK95 => ?_
        refine rw_cons (op_pv (w0 rfl) rfl rfl (pv_assign rfl rfl) ?_)
        refine rw_nil (hK95 _ _ ?_)
        refine hK93 _ _ ?_
        refine cw_ret ?_
        refine fin1 rfl ?_
        first
          | exact ⟨rfl, hc⟩
          | (exfalso; omega)
          | exact ⟨congrArg Value.bool (decide_eq_true (by omega)), hc⟩
          | exact absurd rfl ‹_ ≠ _›
          | (exfalso; simp_all; done)
end Go.Proofs.Ytielahdnccocdaa

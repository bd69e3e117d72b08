/-
  The walk of impl.SumsOf, written by program: each line names the law of one operation. Conditions: those of the theorem.
-/
import Derived.Test.YthgnnpafieifmaaProg
import Derived.Test.YthgnnpafieifmaaSums
import Derived.Test.YthgnnpafieifmaaFimplBytesValid
import Derived.Test.YthgnnpafieifmaaFimplallSums
import Derived.KernelRfl
namespace Go.Proofs.Ythgnnpafieifmaa
open Go Go.RowKit
set_option linter.unusedVariables false
set_option linter.unusedSimpArgs false
namespace SumsOf_iF
theorem T3 : TI Try.prog 3 false (.int .i64 0) 1 8 := TI.mk' Try.underlying3 rfl (by kernel_rfl)
theorem C19 : Callable Try.prog 19 := ⟨_, Try.func19, by kernel_rfl, by kernel_rfl⟩
theorem C38 : Callable Try.prog 38 := ⟨_, Try.func38, by kernel_rfl, by kernel_rfl⟩
end SumsOf_iF
open SumsOf_iF in
set_option maxHeartbeats 4000000 in
theorem SumsOf_i (Axs : Option Addr) (nxs cxs : Nat) (xs : List Int) (w : World) (hRxs : RS encI 1 w w.heap.size Axs nxs xs) (hnxs : nxs ≤ cxs) (hNxs : nxs ≤ 1099511627776) :
    Fn Try.prog 23 [(.slice Axs nxs cxs)] w fun v w' => ∃ A_0 c_0, v = .tuple #[.slice A_0 (sumsV xs).length c_0, .bool (dec (BytesOK xs))] ∧ Own encI 1 w' w.heap.size 3 (.slice A_0 (sumsV xs).length c_0) (sumsV xs) ∧ Ch [] w w' := by
  have hlenxs := hRxs.len
  refine fn_of (n := 10) Try.func23 rfl rfl rfl rfl ?_
  have hc : Ch [] w w := Ch.refl _ _
  refine cw_seq fun K1 hK2 => ?_
  refine cw_region fun K3 hK4 => ?_
  refine rw_cons (op_pv (w0 rfl) rfl rfl (pv_assign (v := (.slice none 0 0)) rfl rfl) ?_)
  refine rw_cons (op_pv (w0 rfl) rfl rfl (pv_assign (v := (.bool false)) rfl rfl) ?_)
  refine rw_nil (hK4 _ _ ?_)
  refine hK2 _ _ ?_
  refine cw_seq fun K5 hK6 => ?_
  refine cw_seq fun K7 hK8 => ?_
  refine cw_region fun K9 hK10 => ?_
  refine rw_cons (op_pv (w0 rfl) rfl rfl (pv_move (v := (.slice Axs nxs cxs)) rfl rfl) ?_)
  refine rw_cons (op_call (w0 rfl) rfl rfl (rc_call C19 rfl rfl) (BytesValid_i _ _ _ xs _ (hRxs.more (by omega)) (by omega)) ?_)
  rintro _ w11 ⟨rfl, hch12⟩
  have hsz13 := hch12.size
  replace hRxs := hRxs.ch0 hch12
  replace hc := hc.step0 hch12
  refine rw_cons (op_pv (w0 rfl) rfl rfl (pv_not rfl rfl) ?_)
  refine rw_nil (hK10 _ _ ?_)
  refine hK8 _ _ ?_
  refine cw_cond rfl (fun h14 => ?_) (fun h14 => ?_)
  · -- then
    replace h14 := not_t h14
    replace h14 := dec_f h14
    refine cw_seq fun K15 hK16 => ?_
    refine cw_region fun K17 hK18 => ?_
    refine rw_cons (op_bslice [] Try.underlying22 T3 (w0 rfl) rfl rfl rfl rfl rfl (by simp [Value.cells]) (by decide) ?_)
    intro g20 w19 hg23 hg24 hK22 hch21
    have hO25 : Own encI 1 w19 w11.heap.size 3 (.slice (some ⟨g20, 0, none⟩) 0 0) ([] : List Int) := Blk.own (xs := ([] : List Int)) hK22 (by omega) rfl (by decide) rfl
    have hsz26 := hch21.size
    replace hRxs := hRxs.ch0 hch21
    replace hc := hc.step0 hch21
    have hub27 := hO25.lt
    refine rw_cons (op_pv (w0 rfl) rfl rfl (pv_assign (v := (.slice (some ⟨g20, 0, none⟩) 0 0)) rfl rfl) ?_)
    refine rw_cons (op_pv (w0 rfl) rfl rfl (pv_assign (v := (.bool false)) rfl rfl) ?_)
    refine rw_nil (hK18 _ _ ?_)
    refine hK16 _ _ ?_
    refine cw_ret ?_
    refine fin2 rfl rfl ?_
    have he_0 : ([] : List Int) = sumsV xs := (sumsV_no ‹¬ BytesOK xs›).symm
    exact ⟨_, _, tup2 (sl_as hO25 he_0) (bvf ‹¬ BytesOK xs›), own_as (hO25.less (by omega)) he_0, hc⟩
  · -- else
    replace h14 := not_f h14
    replace h14 := dec_t h14
    refine cw_skip ?_
    refine hK6 _ _ ?_
    refine cw_seq fun K28 hK29 => ?_
    refine cw_region fun K30 hK31 => ?_
    refine rw_cons (op_pv (w0 rfl) rfl rfl (pv_move (v := (.slice Axs nxs cxs)) rfl rfl) ?_)
    refine rw_cons (op_call (w0 rfl) rfl rfl (rc_call C38 rfl rfl) (allSums_ok _ nxs _ xs _ (hRxs.more (by omega)) (by omega) (by omega) (fun j hj => by have h9 := ‹BytesOK xs›.2 j (by omega); omega)) ?_)
    rintro _ w32 ⟨A34, c35, rfl, hO36, hch33⟩
    have hsz37 := hch33.size
    replace hRxs := hRxs.ch0 hch33
    replace hc := hc.step0 hch33
    have hub38 := hO36.lt
    have hcap39 : (sumsL xs).length ≤ c35 := by obtain ⟨_, _, hv, h1, _⟩ := hO36.form; injection hv with _ _ h3; omega
    have hnt40 := sumsL_len xs
    have hnt41 := sumsL_le xs
    refine rw_cons (op_pv (w0 rfl) rfl rfl (pv_assign (v := (.slice A34 (sumsL xs).length c35)) rfl rfl) ?_)
    refine rw_cons (op_pv (w0 rfl) rfl rfl (pv_assign (v := (.bool true)) rfl rfl) ?_)
    refine rw_nil (hK31 _ _ ?_)
    refine hK29 _ _ ?_
    refine cw_ret ?_
    refine fin2 rfl rfl ?_
    have he_0 : (sumsL xs) = sumsV xs := (sumsV_yes ‹BytesOK xs›).symm
    exact ⟨_, _, tup2 (sl_as hO36 he_0) (bvt ‹BytesOK xs›), own_as (hO36.less (by omega)) he_0, hc⟩
end Go.Proofs.Ythgnnpafieifmaa

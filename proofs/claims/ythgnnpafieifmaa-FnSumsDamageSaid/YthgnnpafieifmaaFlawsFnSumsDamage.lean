/-
  The walk of laws.FnSumsDamage, written by program: each line names the law of one operation. Conditions: those of the theorem.
-/
import Derived.Test.YthgnnpafieifmaaProg
import Derived.Test.YthgnnpafieifmaaFspecDrawSumsOf
import Derived.Test.YthgnnpafieifmaaFimplSumsOf
import Derived.Test.YthgnnpafieifmaaFspecSumsOf
import Derived.Test.YthgnnpafieifmaaFimplSumsBad
import Derived.Test.YthgnnpafieifmaaFlawssameInts
import Derived.KernelRfl
namespace Go.Proofs.Ythgnnpafieifmaa
open Go Go.RowKit
set_option linter.unusedVariables false
set_option linter.unusedSimpArgs false
namespace FnSumsDamage_okF
theorem T3 : TI Try.prog 3 false (.int .i64 0) 1 8 := TI.mk' Try.underlying3 rfl (by kernel_rfl)
theorem C22 : Callable Try.prog 22 := ⟨_, Try.func22, by kernel_rfl, by kernel_rfl⟩
theorem C23 : Callable Try.prog 23 := ⟨_, Try.func23, by kernel_rfl, by kernel_rfl⟩
theorem C26 : Callable Try.prog 26 := ⟨_, Try.func26, by kernel_rfl, by kernel_rfl⟩
theorem C27 : Callable Try.prog 27 := ⟨_, Try.func27, by kernel_rfl, by kernel_rfl⟩
theorem C29 : Callable Try.prog 29 := ⟨_, Try.func29, by kernel_rfl, by kernel_rfl⟩
end FnSumsDamage_okF
open FnSumsDamage_okF in
set_option maxHeartbeats 4000000 in
theorem FnSumsDamage_ok (A0 : Option Addr) (n0 c0 : Nat) (xs0 : List UInt8) (A1 : Option Addr) (n1 c1 : Nat) (xs1 : List UInt8) (w : World) (hR0 : RS encU 1 w w.heap.size A0 n0 xs0) (hn0 : n0 ≤ c0) (hR1 : RS encU 1 w w.heap.size A1 n1 xs1) (hn1 : n1 ≤ c1) :
    Fn Try.prog 9 [(.slice A0 n0 c0), (.slice A1 n1 c1)] w fun v w' => v = .bool true ∧ Ch [] w w' := by
  have hlen0 := hR0.len
  have hlen1 := hR1.len
  refine fn_of (n := 86) Try.func9 rfl rfl rfl rfl ?_
  have hc : Ch [] w w := Ch.refl _ _
  refine cw_seq fun K1 hK2 => ?_
  refine cw_region fun K3 hK4 => ?_
  refine rw_cons (op_pv (w0 rfl) rfl rfl (pv_assign (v := (.bool false)) rfl rfl) ?_)
  refine rw_nil (hK4 _ _ ?_)
  refine hK2 _ _ ?_
  refine cw_seq fun K5 hK6 => ?_
  refine cw_seq fun K7 hK8 => ?_
  refine cw_region fun K9 hK10 => ?_
  refine rw_cons (op_pv (w0 rfl) rfl rfl (pv_move (v := (.slice A0 n0 c0)) rfl rfl) ?_)
  refine rw_cons (op_pv (w0 rfl) rfl rfl (pv_len Try.underlying26 rfl rfl) ?_)
  refine rw_cons (op_pv (w0 rfl) rfl rfl (pv_gtr rfl rfl rfl) ?_)
  refine rw_cons (op_pv (w0 rfl) rfl rfl (pv_move (v := (.bool (decide (1048576 < (n0 : Int))))) rfl rfl) ?_)
  refine rw_split 15 rfl (fun hb11 => ?_) (fun hb11 => ?_)
  · -- yes
    replace hb11 := of_decide_eq_true hb11
    refine rw_cons (op_pass (w1n2 rfl rfl rfl rfl) rfl rfl ?_)
    refine rw_cons (op_pass (w1n2 rfl rfl rfl rfl) rfl rfl ?_)
    refine rw_cons (op_pass (w1n2 rfl rfl rfl rfl) rfl rfl ?_)
    refine rw_cons (op_pv (w0 rfl) rfl rfl (pv_pickT (v := (.bool true)) rfl rfl rfl) ?_)
    refine rw_nil (hK10 _ _ ?_)
    refine hK8 _ _ ?_
    refine cw_cond rfl (fun h12 => ?_) (fun h12 => ?_)
    · -- then
      clear h12
      refine cw_seq fun K13 hK14 => ?_
      refine cw_region fun K15 hK16 => ?_
      refine rw_cons (op_pv (w0 rfl) rfl rfl (pv_assign (v := (.bool true)) rfl rfl) ?_)
      refine rw_nil (hK16 _ _ ?_)
      refine hK14 _ _ ?_
      refine cw_ret ?_
      refine fin1 rfl ?_
      exact ⟨rfl, hc⟩
    · -- else
      cases h12
  · -- no
    replace hb11 := of_decide_eq_false hb11
    refine rw_cons (op_pv (w1y rfl rfl rfl rfl) rfl rfl (pv_move (v := (.slice A1 n1 c1)) rfl rfl) ?_)
    refine rw_cons (op_pv (w1y rfl rfl rfl rfl) rfl rfl (pv_len Try.underlying26 rfl rfl) ?_)
    refine rw_cons (op_pv (w1y rfl rfl rfl rfl) rfl rfl (pv_gtr rfl rfl rfl) ?_)
    refine rw_cons (op_pv (w0 rfl) rfl rfl (pv_pickF (v := (.bool (decide (1048576 < (n1 : Int))))) rfl rfl rfl) ?_)
    refine rw_nil (hK10 _ _ ?_)
    refine hK8 _ _ ?_
    refine cw_cond rfl (fun h17 => ?_) (fun h17 => ?_)
    · -- then
      replace h17 := of_decide_eq_true h17
      refine cw_seq fun K18 hK19 => ?_
      refine cw_region fun K20 hK21 => ?_
      refine rw_cons (op_pv (w0 rfl) rfl rfl (pv_assign (v := (.bool true)) rfl rfl) ?_)
      refine rw_nil (hK21 _ _ ?_)
      refine hK19 _ _ ?_
      refine cw_ret ?_
      refine fin1 rfl ?_
      exact ⟨rfl, hc⟩
    · -- else
      replace h17 := of_decide_eq_false h17
      refine cw_skip ?_
      refine hK6 _ _ ?_
      refine cw_seq fun K22 hK23 => ?_
      refine cw_region fun K24 hK25 => ?_
      refine rw_cons (op_pv (w0 rfl) rfl rfl (pv_move (v := (.slice A0 n0 c0)) rfl rfl) ?_)
      refine rw_cons (op_call (w0 rfl) rfl rfl (rc_call C26 rfl rfl) (DrawSumsOf_ok _ _ _ _ _ (hR0.more (by omega)) (by omega)) ?_)
      rintro _ w26 ⟨A30, c31, xs32, rfl, hO33, hl27, hdr28, hch29⟩
      have hsz35 := hch29.size
      replace hR0 := hR0.ch0 hch29
      replace hR1 := hR1.ch0 hch29
      replace hc := hc.step0 hch29
      have hub34 := hO33.lt
      have hcap36 : xs32.length ≤ c31 := by obtain ⟨_, _, hv, h1, _⟩ := hO33.form; injection hv with _ _ h3; omega
      refine rw_cons (op_pv (w0 rfl) rfl rfl (pv_assign (v := (.slice A30 xs32.length c31)) rfl rfl) ?_)
      refine rw_nil (hK25 _ _ ?_)
      refine hK23 _ _ ?_
      refine cw_seq fun K37 hK38 => ?_
      refine cw_region fun K39 hK40 => ?_
      refine rw_cons (op_pv (w0 rfl) rfl rfl (pv_move (v := (.slice A30 xs32.length c31)) rfl rfl) ?_)
      refine rw_cons (op_call (w0 rfl) rfl rfl (rc_call C23 rfl rfl) (SumsOf_i _ xs32.length _ xs32 _ (hO33.rs (fun _ => rfl)) (by omega) (by omega)) ?_)
      rintro _ w41 ⟨A43, c44, rfl, hO45, hch42⟩
      have hsz46 := hch42.size
      replace hR0 := hR0.ch0 hch42
      replace hR1 := hR1.ch0 hch42
      replace hO33 := hO33.ch0 hch42
      replace hc := hc.step0 hch42
      have hub47 := hO45.lt
      have hcap48 : (sumsV xs32).length ≤ c44 := by obtain ⟨_, _, hv, h1, _⟩ := hO45.form; injection hv with _ _ h3; omega
      have hnt49 := sumsV_le xs32
      refine rw_cons (op_pv (w0 rfl) rfl rfl (pv_move (v := (.tuple #[(.slice A43 (sumsV xs32).length c44), (.bool (dec (BytesOK xs32)))])) rfl rfl) ?_)
      refine rw_cons (op_pv (w0 rfl) rfl rfl (pv_ext (v := (.slice A43 (sumsV xs32).length c44)) rfl rfl rfl) ?_)
      refine rw_cons (op_pv (w0 rfl) rfl rfl (pv_ext (v := (.bool (dec (BytesOK xs32)))) rfl rfl rfl) ?_)
      refine rw_cons (op_pv (w0 rfl) rfl rfl (pv_assign (v := (.slice A43 (sumsV xs32).length c44)) rfl rfl) ?_)
      refine rw_cons (op_pv (w0 rfl) rfl rfl (pv_assign (v := (.bool (dec (BytesOK xs32)))) rfl rfl) ?_)
      refine rw_nil (hK40 _ _ ?_)
      refine hK38 _ _ ?_
      refine cw_seq fun K50 hK51 => ?_
      refine cw_region fun K52 hK53 => ?_
      refine rw_cons (op_pv (w0 rfl) rfl rfl (pv_move (v := (.slice A30 xs32.length c31)) rfl rfl) ?_)
      refine rw_cons (op_call (w0 rfl) rfl rfl (rc_call C22 rfl rfl) (SumsOf_s _ xs32.length _ xs32 _ (hO33.rs (fun _ => rfl)) (by omega) (by omega)) ?_)
      rintro _ w54 ⟨A56, c57, rfl, hO58, hch55⟩
      have hsz59 := hch55.size
      replace hR0 := hR0.ch0 hch55
      replace hR1 := hR1.ch0 hch55
      replace hO33 := hO33.ch0 hch55
      replace hO45 := hO45.ch0 hch55
      replace hc := hc.step0 hch55
      have hub60 := hO58.lt
      have hcap61 : (sumsV xs32).length ≤ c57 := by obtain ⟨_, _, hv, h1, _⟩ := hO58.form; injection hv with _ _ h3; omega
      have hnt62 := sumsV_le xs32
      refine rw_cons (op_pv (w0 rfl) rfl rfl (pv_move (v := (.tuple #[(.slice A56 (sumsV xs32).length c57), (.bool (dec (BytesOK xs32)))])) rfl rfl) ?_)
      refine rw_cons (op_pv (w0 rfl) rfl rfl (pv_ext (v := (.slice A56 (sumsV xs32).length c57)) rfl rfl rfl) ?_)
      refine rw_cons (op_pv (w0 rfl) rfl rfl (pv_ext (v := (.bool (dec (BytesOK xs32)))) rfl rfl rfl) ?_)
      refine rw_cons (op_pv (w0 rfl) rfl rfl (pv_assign (v := (.slice A56 (sumsV xs32).length c57)) rfl rfl) ?_)
      refine rw_cons (op_pv (w0 rfl) rfl rfl (pv_assign (v := (.bool (dec (BytesOK xs32)))) rfl rfl) ?_)
      refine rw_nil (hK53 _ _ ?_)
      refine hK51 _ _ ?_
      refine cw_seq fun K63 hK64 => ?_
      refine cw_seq fun K65 hK66 => ?_
      refine cw_region fun K67 hK68 => ?_
      refine rw_cons (op_pv (w0 rfl) rfl rfl (pv_move (v := (.bool (dec (BytesOK xs32)))) rfl rfl) ?_)
      refine rw_cons (op_pv (w0 rfl) rfl rfl (pv_move (v := (.bool (dec (BytesOK xs32)))) rfl rfl) ?_)
      refine rw_cons (op_pv (w0 rfl) rfl rfl (pv_neBs Try.underlying4 rfl rfl rfl) ?_)
      refine rw_cons (op_pv (w0 rfl) rfl rfl (pv_move (v := (.bool false)) rfl rfl) ?_)
      refine rw_cons (op_pv (w1y rfl rfl rfl rfl) rfl rfl (pv_move (v := (.slice A43 (sumsV xs32).length c44)) rfl rfl) ?_)
      refine rw_cons (op_pv (w1y rfl rfl rfl rfl) rfl rfl (pv_move (v := (.slice A56 (sumsV xs32).length c57)) rfl rfl) ?_)
      refine rw_cons (op_call (w1y rfl rfl rfl rfl) rfl rfl (rc_call C27 rfl rfl) (sameInts_same _ _ _ _ _ _ (sumsV xs32) _ (hO45.rs (fun _ => rfl)) (hO58.rs (fun _ => rfl)) (by omega)) ?_)
      rintro _ w69 ⟨rfl, hch70⟩
      have hsz71 := hch70.size
      replace hR0 := hR0.ch0 hch70
      replace hR1 := hR1.ch0 hch70
      replace hO33 := hO33.ch0 hch70
      replace hO45 := hO45.ch0 hch70
      replace hO58 := hO58.ch0 hch70
      replace hc := hc.step0 hch70
      refine rw_cons (op_pv (w1y rfl rfl rfl rfl) rfl rfl (pv_not rfl rfl) ?_)
      refine rw_cons (op_pv (w0 rfl) rfl rfl (pv_pickF (v := (.bool (!true))) rfl rfl rfl) ?_)
      refine rw_cons (op_pv (w0 rfl) rfl rfl (pv_move (v := (.bool (!true))) rfl rfl) ?_)
      refine rw_cons (op_pv (w1y rfl rfl rfl rfl) rfl rfl (pv_move (v := (.bool (dec (BytesOK xs32)))) rfl rfl) ?_)
      refine rw_cons (op_pv (w1y rfl rfl rfl rfl) rfl rfl (pv_not rfl rfl) ?_)
      refine rw_cons (op_pv (w0 rfl) rfl rfl (pv_pickF (v := (.bool (!(dec (BytesOK xs32))))) rfl rfl rfl) ?_)
      refine rw_cons (op_pv (w0 rfl) rfl rfl (pv_move (v := (.bool (!(dec (BytesOK xs32))))) rfl rfl) ?_)
      refine rw_split 45 rfl (fun hb72 => ?_) (fun hb72 => ?_)
      · -- yes
        replace hb72 := not_t hb72
        replace hb72 := dec_f hb72
        refine rw_cons (op_pass (w1n2 rfl rfl rfl rfl) rfl rfl ?_)
        refine rw_cons (op_pass (w1n2 rfl rfl rfl rfl) rfl rfl ?_)
        refine rw_cons (op_pass (w1n2 rfl rfl rfl rfl) rfl rfl ?_)
        refine rw_cons (op_pv (w0 rfl) rfl rfl (pv_pickT (v := (.bool true)) rfl rfl rfl) ?_)
        refine rw_nil (hK68 _ _ ?_)
        refine hK66 _ _ ?_
        refine cw_cond rfl (fun h73 => ?_) (fun h73 => ?_)
        · -- then
          clear h73
          refine cw_seq fun K74 hK75 => ?_
          refine cw_region fun K76 hK77 => ?_
          refine rw_cons (op_pv (w0 rfl) rfl rfl (pv_move (v := (.bool (dec (BytesOK xs32)))) rfl rfl) ?_)
          refine rw_cons (op_pv (w0 rfl) rfl rfl (pv_move (v := (.bool (dec (BytesOK xs32)))) rfl rfl) ?_)
          refine rw_cons (op_pv (w0 rfl) rfl rfl (pv_eqBs Try.underlying4 rfl rfl rfl) ?_)
          refine rw_cons (op_pv (w0 rfl) rfl rfl (pv_move (v := (.bool true)) rfl rfl) ?_)
          refine rw_cons (op_pv (w1y rfl rfl rfl rfl) rfl rfl (pv_move (v := (.slice A43 (sumsV xs32).length c44)) rfl rfl) ?_)
          refine rw_cons (op_pv (w1y rfl rfl rfl rfl) rfl rfl (pv_move (v := (.slice A56 (sumsV xs32).length c57)) rfl rfl) ?_)
          refine rw_cons (op_call (w1y rfl rfl rfl rfl) rfl rfl (rc_call C27 rfl rfl) (sameInts_same _ _ _ _ _ _ (sumsV xs32) _ (hO45.rs (fun _ => rfl)) (hO58.rs (fun _ => rfl)) (by omega)) ?_)
          rintro _ w78 ⟨rfl, hch79⟩
          have hsz80 := hch79.size
          replace hR0 := hR0.ch0 hch79
          replace hR1 := hR1.ch0 hch79
          replace hO33 := hO33.ch0 hch79
          replace hO45 := hO45.ch0 hch79
          replace hO58 := hO58.ch0 hch79
          replace hc := hc.step0 hch79
          refine rw_cons (op_pv (w0 rfl) rfl rfl (pv_pickT (v := (.bool true)) rfl rfl rfl) ?_)
          refine rw_cons (op_pv (w0 rfl) rfl rfl (pv_assign (v := (.bool true)) rfl rfl) ?_)
          refine rw_nil (hK77 _ _ ?_)
          refine hK75 _ _ ?_
          refine cw_ret ?_
          refine fin1 rfl ?_
          exact ⟨rfl, hc⟩
        · -- else
          cases h73
      · -- no
        replace hb72 := not_f hb72
        replace hb72 := dec_t hb72
        refine rw_cons (op_pv (w1y rfl rfl rfl rfl) rfl rfl (pv_move (v := (.slice A30 xs32.length c31)) rfl rfl) ?_)
        refine rw_cons (op_pv (w1y rfl rfl rfl rfl) rfl rfl (pv_len Try.underlying22 rfl rfl) ?_)
        refine rw_cons (op_pv (w1y rfl rfl rfl rfl) rfl rfl (pv_eql rfl rfl rfl) ?_)
        refine rw_cons (op_pv (w0 rfl) rfl rfl (pv_pickF (v := (.bool (decide (((xs32.length : Int) : Int) = 0)))) rfl rfl rfl) ?_)
        refine rw_nil (hK68 _ _ ?_)
        refine hK66 _ _ ?_
        refine cw_cond rfl (fun h81 => ?_) (fun h81 => ?_)
        · -- then
          replace h81 := of_decide_eq_true h81
          refine cw_seq fun K82 hK83 => ?_
          refine cw_region fun K84 hK85 => ?_
          refine rw_cons (op_pv (w0 rfl) rfl rfl (pv_move (v := (.bool (dec (BytesOK xs32)))) rfl rfl) ?_)
          refine rw_cons (op_pv (w0 rfl) rfl rfl (pv_move (v := (.bool (dec (BytesOK xs32)))) rfl rfl) ?_)
          refine rw_cons (op_pv (w0 rfl) rfl rfl (pv_eqBs Try.underlying4 rfl rfl rfl) ?_)
          refine rw_cons (op_pv (w0 rfl) rfl rfl (pv_move (v := (.bool true)) rfl rfl) ?_)
          refine rw_cons (op_pv (w1y rfl rfl rfl rfl) rfl rfl (pv_move (v := (.slice A43 (sumsV xs32).length c44)) rfl rfl) ?_)
          refine rw_cons (op_pv (w1y rfl rfl rfl rfl) rfl rfl (pv_move (v := (.slice A56 (sumsV xs32).length c57)) rfl rfl) ?_)
          refine rw_cons (op_call (w1y rfl rfl rfl rfl) rfl rfl (rc_call C27 rfl rfl) (sameInts_same _ _ _ _ _ _ (sumsV xs32) _ (hO45.rs (fun _ => rfl)) (hO58.rs (fun _ => rfl)) (by omega)) ?_)
          rintro _ w86 ⟨rfl, hch87⟩
          have hsz88 := hch87.size
          replace hR0 := hR0.ch0 hch87
          replace hR1 := hR1.ch0 hch87
          replace hO33 := hO33.ch0 hch87
          replace hO45 := hO45.ch0 hch87
          replace hO58 := hO58.ch0 hch87
          replace hc := hc.step0 hch87
          refine rw_cons (op_pv (w0 rfl) rfl rfl (pv_pickT (v := (.bool true)) rfl rfl rfl) ?_)
          refine rw_cons (op_pv (w0 rfl) rfl rfl (pv_assign (v := (.bool true)) rfl rfl) ?_)
          refine rw_nil (hK85 _ _ ?_)
          refine hK83 _ _ ?_
          refine cw_ret ?_
          refine fin1 rfl ?_
          exact ⟨rfl, hc⟩
        · -- else
          replace h81 := of_decide_eq_false h81
          refine cw_skip ?_
          refine hK64 _ _ ?_
          refine cw_seq fun K89 hK90 => ?_
          refine cw_region fun K91 hK92 => ?_
          refine rw_cons (op_pv (w0 rfl) rfl rfl (pv_move (v := (.slice A1 n1 c1)) rfl rfl) ?_)
          refine rw_cons (op_pv (w0 rfl) rfl rfl (pv_len Try.underlying26 rfl rfl) ?_)
          refine rw_cons (op_pv (w0 rfl) rfl rfl (pv_move (v := (.slice A30 xs32.length c31)) rfl rfl) ?_)
          refine rw_cons (op_pv (w0 rfl) rfl rfl (pv_len Try.underlying22 rfl rfl) ?_)
          refine rw_cons (op_pv (w0 rfl) rfl rfl (pv_rem rfl rfl rfl (by omega) (by omega)) ?_)
          have hq93 := Int.emod_nonneg (n1 : Int) (b := (xs32.length : Int)) (by omega); have hq94 := Int.emod_lt_of_pos (n1 : Int) (b := (xs32.length : Int)) (by omega)
          obtain ⟨d95, hd96⟩ : ∃ d : Nat, (n1 : Int) % (xs32.length : Int) = (d : Int) := ⟨((n1 : Int) % (xs32.length : Int)).toNat, by omega⟩
          rw [hd96]
          rw [hd96] at hq93
          rw [hd96] at hq94
          refine rw_cons (op_pv (w0 rfl) rfl rfl (pv_assign (v := (.int .i64 (d95 : Int))) rfl rfl) ?_)
          refine rw_nil (hK92 _ _ ?_)
          refine hK90 _ _ ?_
          refine cw_seq fun K97 hK98 => ?_
          refine cw_region fun K99 hK100 => ?_
          refine rw_cons (op_bslice [] Try.underlying22 T3 (w0 rfl) rfl rfl rfl rfl rfl (by simp [Value.cells]) (by decide) ?_)
          intro g102 w101 hg105 hg106 hK104 hch103
          have hO107 : Own encI 1 w101 w69.heap.size 3 (.slice (some ⟨g102, 0, none⟩) 0 0) ([] : List Int) := Blk.own (xs := ([] : List Int)) hK104 (by omega) rfl (by decide) rfl
          have hsz108 := hch103.size
          replace hR0 := hR0.ch0 hch103
          replace hR1 := hR1.ch0 hch103
          replace hO33 := hO33.ch0 hch103
          replace hO45 := hO45.ch0 hch103
          replace hO58 := hO58.ch0 hch103
          replace hc := hc.step0 hch103
          have hub109 := hO107.lt
          refine rw_cons (op_pv (w0 rfl) rfl rfl (pv_move (v := (.slice A30 xs32.length c31)) rfl rfl) ?_)
          refine rw_cons (op_append Try.underlying22 T3 (fun _ => rfl) rfl (by decide) (fun _ => one_all rfl) (w0 rfl) rfl rfl rfl rfl rfl hO107 (hO33.rs (fun _ => rfl)) (by unfold maxLen; first | omega | (simp; omega)) (by first | omega | (simp; omega)) (by omega) ?_)
          rintro v110 w111 hO112 hch113 hs114
          replace hO112 : Own encI 1 w111 w69.heap.size 3 v110 xs32 := hO112
          have hl115 : xs32.length = 0 + xs32.length := by first | (have hl0 := (hO33.rs (fun _ => rfl)).len; simp only [List.length_append, List.length_cons, List.length_nil] at hl0 ⊢; omega) | simp | rfl
          have hsz116 := hch113.size
          replace hR0 := hR0.ch hch113 (hO107.off.le (by omega))
          replace hR1 := hR1.ch hch113 (hO107.off.le (by omega))
          replace hO33 := hO33.ch hch113 (fun s hs hs2 => by first | (have h1 := hO33.off s hs; have h2 := hub109 s hs2; omega) | (have h1 := hub34 s hs; have h2 := hO107.off s hs2; omega) | (have h2 := hub109 s hs2; simp [obl, Value.ownBlock] at hs; omega) | (have h1 := hub34 s hs; simp [obl, Value.ownBlock] at hs2; omega))
          replace hO45 := hO45.ch hch113 (fun s hs hs2 => by first | (have h1 := hO45.off s hs; have h2 := hub109 s hs2; omega) | (have h1 := hub47 s hs; have h2 := hO107.off s hs2; omega) | (have h2 := hub109 s hs2; simp [obl, Value.ownBlock] at hs; omega) | (have h1 := hub47 s hs; simp [obl, Value.ownBlock] at hs2; omega))
          replace hO58 := hO58.ch hch113 (fun s hs hs2 => by first | (have h1 := hO58.off s hs; have h2 := hub109 s hs2; omega) | (have h1 := hub60 s hs; have h2 := hO107.off s hs2; omega) | (have h2 := hub109 s hs2; simp [obl, Value.ownBlock] at hs; omega) | (have h1 := hub60 s hs; simp [obl, Value.ownBlock] at hs2; omega))
          replace hc := (hO107.off.le (by omega)).step hc hch113
          have hub117 := hO112.lt
          obtain ⟨A118, c119, hv120, hcap121, hcap122⟩ := hO112.form; subst hv120
          refine rw_cons (op_pv (w0 rfl) rfl rfl (pv_assign (v := (.slice A118 xs32.length c119)) rfl rfl) ?_)
          refine rw_nil (hK100 _ _ ?_)
          refine hK98 _ _ ?_
          refine cw_seq fun K123 hK124 => ?_
          refine cw_region fun K125 hK126 => ?_
          refine rw_cons (op_pv (w0 rfl) rfl rfl (pv_move (v := (.slice A118 xs32.length c119)) rfl rfl) ?_)
          refine rw_cons (op_pv (w0 rfl) rfl rfl (pv_move (v := (.int .i64 (d95 : Int))) rfl rfl) ?_)
          refine rw_cons (op_pv (w0 rfl) rfl rfl (pv_move (v := (.slice A30 xs32.length c31)) rfl rfl) ?_)
          refine rw_cons (op_pv (w0 rfl) rfl rfl (pv_move (v := (.int .i64 (d95 : Int))) rfl rfl) ?_)
          refine rw_cons (op_pv (w0 rfl) rfl rfl (pv_idx Try.underlying22 T3 rfl rfl rfl ((hO33.rs (fun _ => rfl)).some (k := d95) (by omega)) (by omega) (by omega)) ?_)
          have hel127 := hdr28 d95 (by omega)
          refine rw_cons (op_lv (w0 rfl) rfl rfl (lv_load T3 rfl rfl ((hO33.rs (fun _ => rfl)).cell0 (k := d95) (by omega) rfl)) ?_)
          refine rw_cons (op_pv (w0 rfl) rfl rfl (pv_add rfl rfl rfl (by omega) (by omega)) ?_)
          refine rw_cons (op_pv (w0 rfl) rfl rfl (pv_move (v := (.slice A1 n1 c1)) rfl rfl) ?_)
          refine rw_cons (op_pv (w0 rfl) rfl rfl (pv_len Try.underlying26 rfl rfl) ?_)
          refine rw_cons (op_pv (w0 rfl) rfl rfl (pv_rem rfl rfl rfl (by omega) (by omega)) ?_)
          refine rw_cons (op_pv (w0 rfl) rfl rfl (pv_add rfl rfl rfl (by omega) (by omega)) ?_)
          refine rw_cons (op_pv (w0 rfl) rfl rfl (pv_rem rfl rfl rfl (by omega) (by omega)) ?_)
          refine rw_cons (op_pv (w0 rfl) rfl rfl (pv_idx Try.underlying22 T3 rfl rfl rfl ((hO112.rs (fun _ => rfl)).some (k := d95) (by omega)) (by omega) (by omega)) ?_)
          refine rw_cons (op_store_ownA (k := d95) (off := 0) ((((el xs32 d95) + 1) + ((n1 : Int) % 255)) % 256) T3 hO112 (fun _ => rfl) (w0 rfl) rfl rfl rfl rfl rfl (one_all rfl) (by omega) (Nat.le_of_ble_eq_true rfl) rfl ?_)
          rintro w128 hO130 hch129
          have hsz131 := hch129.size
          replace hR0 := hR0.ch hch129 (hO112.off.le (by omega))
          replace hR1 := hR1.ch hch129 (hO112.off.le (by omega))
          replace hO33 := hO33.ch hch129 (fun s hs hs2 => by first | (have h1 := hO33.off s hs; have h2 := hub117 s hs2; omega) | (have h1 := hub34 s hs; have h2 := hO112.off s hs2; omega) | (have h2 := hub117 s hs2; simp [obl, Value.ownBlock] at hs; omega) | (have h1 := hub34 s hs; simp [obl, Value.ownBlock] at hs2; omega))
          replace hO45 := hO45.ch hch129 (fun s hs hs2 => by first | (have h1 := hO45.off s hs; have h2 := hub117 s hs2; omega) | (have h1 := hub47 s hs; have h2 := hO112.off s hs2; omega) | (have h2 := hub117 s hs2; simp [obl, Value.ownBlock] at hs; omega) | (have h1 := hub47 s hs; simp [obl, Value.ownBlock] at hs2; omega))
          replace hO58 := hO58.ch hch129 (fun s hs hs2 => by first | (have h1 := hO58.off s hs; have h2 := hub117 s hs2; omega) | (have h1 := hub60 s hs; have h2 := hO112.off s hs2; omega) | (have h2 := hub117 s hs2; simp [obl, Value.ownBlock] at hs; omega) | (have h1 := hub60 s hs; simp [obl, Value.ownBlock] at hs2; omega))
          replace hc := (hO112.off.le (by omega)).step hc hch129
          clear hO112; have hO112 := hO130; clear hO130
          refine rw_nil (hK126 _ _ ?_)
          refine hK124 _ _ ?_
          refine cw_seq fun K132 hK133 => ?_
          refine cw_region fun K134 hK135 => ?_
          refine rw_cons (op_pv (w0 rfl) rfl rfl (pv_move (v := (.slice A118 xs32.length c119)) rfl rfl) ?_)
          refine rw_cons (op_pv (w0 rfl) rfl rfl (pv_move (v := (.slice A43 (sumsV xs32).length c44)) rfl rfl) ?_)
          refine rw_cons (op_call (w0 rfl) rfl rfl (rc_call C29 rfl rfl) (SumsBad_i _ xs32.length _ (xs32.set d95 ((((el xs32 d95) + 1) + ((n1 : Int) % 255)) % 256)) _ (sumsV xs32).length _ (sumsV xs32) _ (hO112.rs (fun _ => rfl)) (by omega) (by omega) (hO45.rs (fun _ => rfl)) (by omega)) ?_)
          rintro _ w136 ⟨A138, c139, rfl, hO140, hch137⟩
          have hsz141 := hch137.size
          replace hR0 := hR0.ch0 hch137
          replace hR1 := hR1.ch0 hch137
          replace hO33 := hO33.ch0 hch137
          replace hO45 := hO45.ch0 hch137
          replace hO58 := hO58.ch0 hch137
          replace hO112 := hO112.ch0 hch137
          replace hc := hc.step0 hch137
          have hub142 := hO140.lt
          have hcap143 : (badV (xs32.set d95 ((((el xs32 d95) + 1) + ((n1 : Int) % 255)) % 256)) (sumsV xs32)).length ≤ c139 := by obtain ⟨_, _, hv, h1, _⟩ := hO140.form; injection hv with _ _ h3; omega
          have hnt144 := badV_le (xs32.set d95 ((((el xs32 d95) + 1) + ((n1 : Int) % 255)) % 256)) (sumsV xs32)
          refine rw_cons (op_pv (w0 rfl) rfl rfl (pv_move (v := (.int .i64 (d95 : Int))) rfl rfl) ?_)
          refine rw_cons (op_pv (w0 rfl) rfl rfl (pv_quo rfl rfl rfl (by omega) (by omega) (by omega)) ?_)
          refine rw_cons (op_bslice [(.int .i64 ((d95 : Int) / 4))] Try.underlying22 T3 (w0 rfl) rfl rfl rfl rfl rfl (by simp [Value.cells]) (by decide) ?_)
          intro g146 w145 hg149 hg150 hK148 hch147
          have hO151 : Own encI 1 w145 w136.heap.size 3 (.slice (some ⟨g146, 0, none⟩) 1 1) ([(d95 : Int) / 4] : List Int) := Blk.own (xs := ([(d95 : Int) / 4] : List Int)) hK148 (by omega) rfl (by decide) rfl
          have hsz152 := hch147.size
          replace hR0 := hR0.ch0 hch147
          replace hR1 := hR1.ch0 hch147
          replace hO33 := hO33.ch0 hch147
          replace hO45 := hO45.ch0 hch147
          replace hO58 := hO58.ch0 hch147
          replace hO112 := hO112.ch0 hch147
          replace hO140 := hO140.ch0 hch147
          replace hc := hc.step0 hch147
          have hub153 := hO151.lt
          refine rw_cons (op_call (w0 rfl) rfl rfl (rc_call C27 rfl rfl) (sameInts_ok _ _ _ _ _ _ (badV (xs32.set d95 ((((el xs32 d95) + 1) + ((n1 : Int) % 255)) % 256)) (sumsV xs32)) ([(d95 : Int) / 4] : List Int) _ (hO140.rs (fun _ => rfl)) (hO151.rs (fun _ => rfl)) (by omega)) ?_)
          rintro _ w154 ⟨rfl, hch155⟩
          have hsz156 := hch155.size
          replace hR0 := hR0.ch0 hch155
          replace hR1 := hR1.ch0 hch155
          replace hO33 := hO33.ch0 hch155
          replace hO45 := hO45.ch0 hch155
          replace hO58 := hO58.ch0 hch155
          replace hO112 := hO112.ch0 hch155
          replace hO140 := hO140.ch0 hch155
          replace hO151 := hO151.ch0 hch155
          replace hc := hc.step0 hch155
          refine rw_cons (op_pv (w0 rfl) rfl rfl (pv_assign (v := (.bool (dec ((badV (xs32.set d95 ((((el xs32 d95) + 1) + ((n1 : Int) % 255)) % 256)) (sumsV xs32)) = ([(d95 : Int) / 4] : List Int))))) rfl rfl) ?_)
          refine rw_nil (hK135 _ _ ?_)
          refine hK133 _ _ ?_
          refine cw_ret ?_
          refine fin1 rfl ?_
          rcases Classical.em (BytesOK xs32) with hbo | hbo
          · have e1 := sumsV_yes hbo; have e2 := sumsL_len xs32; have e3 : nparts xs32 = (xs32.length + 3) / 4 := rfl
            have e5 : (sumsV xs32).length = (xs32.length + 3) / 4 := by rw [e1, e2, e3]
            first
              | exact ⟨rfl, hc⟩
              | (exfalso; omega)
              | exact ⟨congrArg Value.bool (decide_eq_true (by omega)), hc⟩
              | (have hk0 := hbo.2 d95 (by omega); have hd := damage_bad hbo d95 ((((el xs32 d95) + 1) + ((n1 : Int) % 255)) % 256) (by omega) (by omega) (by omega) (by omega); exact ⟨congrArg Value.bool (dec_yes (by rw [e1]; exact hd.trans (by rw [Int.natCast_ediv]; rfl))), hc⟩)
          · first
              | exact absurd ‹BytesOK xs32› hbo
              | exact ⟨rfl, hc⟩
end Go.Proofs.Ythgnnpafieifmaa

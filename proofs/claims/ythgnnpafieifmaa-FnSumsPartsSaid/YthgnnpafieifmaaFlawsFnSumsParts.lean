/-
  The walk of laws.FnSumsParts, written by program: each line names the law of one operation. Conditions: those of the theorem.
-/
import Derived.Test.YthgnnpafieifmaaProg
import Derived.Test.YthgnnpafieifmaaFspecDrawSumsOf
import Derived.Test.YthgnnpafieifmaaFimplSumsOf
import Derived.Test.YthgnnpafieifmaaFspecSumsOf
import Derived.Test.YthgnnpafieifmaaFlawssameInts
import Derived.KernelRfl
namespace Go.Proofs.Ythgnnpafieifmaa
open Go Go.RowKit
set_option linter.unusedVariables false
set_option linter.unusedSimpArgs false
namespace FnSumsParts_okF
theorem T3 : TI Try.prog 3 false (.int .i64 0) 1 8 := TI.mk' Try.underlying3 rfl (by kernel_rfl)
theorem C22 : Callable Try.prog 22 := ⟨_, Try.func22, by kernel_rfl, by kernel_rfl⟩
theorem C23 : Callable Try.prog 23 := ⟨_, Try.func23, by kernel_rfl, by kernel_rfl⟩
theorem C26 : Callable Try.prog 26 := ⟨_, Try.func26, by kernel_rfl, by kernel_rfl⟩
theorem C27 : Callable Try.prog 27 := ⟨_, Try.func27, by kernel_rfl, by kernel_rfl⟩
end FnSumsParts_okF
open FnSumsParts_okF in
set_option maxHeartbeats 4000000 in
theorem FnSumsParts_ok (A0 : Option Addr) (n0 c0 : Nat) (xs0 : List UInt8) (w : World) (hR0 : RS encU 1 w w.heap.size A0 n0 xs0) (hn0 : n0 ≤ c0) :
    Fn Try.prog 6 [(.slice A0 n0 c0)] w fun v w' => v = .bool true ∧ Ch [] w w' := by
  have hlen0 := hR0.len
  refine fn_of (n := 78) Try.func6 rfl rfl rfl rfl ?_
  have hc : Ch [] w w := Ch.refl _ _
  refine cw_seq fun K1 hK2 => ?_
  refine cw_region fun K3 hK4 => ?_
  refine rw_cons (op_pv (w0 rfl) rfl rfl (pv_assign (v := (.bool false)) rfl rfl) ?_)
  refine rw_nil (hK4 _ _ ?_)
  refine hK2 _ _ ?_
  refine cw_seq fun K5 hK6 => ?_
  refine cw_seq fun K7 hK8 => ?_
  refine cw_region fun K9 hK10 => ?_
  refine rw_cons (op_pv (w0 rfl) rfl rfl (pv_move (v := (.slice A0 n0 c0)) rfl rfl) ?_)
  refine rw_cons (op_pv (w0 rfl) rfl rfl (pv_len Try.underlying26 rfl rfl) ?_)
  refine rw_cons (op_pv (w0 rfl) rfl rfl (pv_gtr rfl rfl rfl) ?_)
  refine rw_nil (hK10 _ _ ?_)
  refine hK8 _ _ ?_
  refine cw_cond rfl (fun h11 => ?_) (fun h11 => ?_)
  · -- then
    replace h11 := of_decide_eq_true h11
    refine cw_seq fun K12 hK13 => ?_
    refine cw_region fun K14 hK15 => ?_
    refine rw_cons (op_pv (w0 rfl) rfl rfl (pv_assign (v := (.bool true)) rfl rfl) ?_)
    refine rw_nil (hK15 _ _ ?_)
    refine hK13 _ _ ?_
    refine cw_ret ?_
    refine fin1 rfl ?_
    exact ⟨rfl, hc⟩
  · -- else
    replace h11 := of_decide_eq_false h11
    refine cw_skip ?_
    refine hK6 _ _ ?_
    refine cw_seq fun K16 hK17 => ?_
    refine cw_region fun K18 hK19 => ?_
    refine rw_cons (op_pv (w0 rfl) rfl rfl (pv_move (v := (.slice A0 n0 c0)) rfl rfl) ?_)
    refine rw_cons (op_call (w0 rfl) rfl rfl (rc_call C26 rfl rfl) (DrawSumsOf_ok _ _ _ _ _ (hR0.more (by omega)) (by omega)) ?_)
    rintro _ w20 ⟨A24, c25, xs26, rfl, hO27, hl21, hdr22, hch23⟩
    have hsz29 := hch23.size
    replace hR0 := hR0.ch0 hch23
    replace hc := hc.step0 hch23
    have hub28 := hO27.lt
    have hcap30 : xs26.length ≤ c25 := by obtain ⟨_, _, hv, h1, _⟩ := hO27.form; injection hv with _ _ h3; omega
    refine rw_cons (op_pv (w0 rfl) rfl rfl (pv_assign (v := (.slice A24 xs26.length c25)) rfl rfl) ?_)
    refine rw_nil (hK19 _ _ ?_)
    refine hK17 _ _ ?_
    refine cw_seq fun K31 hK32 => ?_
    refine cw_region fun K33 hK34 => ?_
    refine rw_cons (op_pv (w0 rfl) rfl rfl (pv_move (v := (.slice A24 xs26.length c25)) rfl rfl) ?_)
    refine rw_cons (op_call (w0 rfl) rfl rfl (rc_call C23 rfl rfl) (SumsOf_i _ xs26.length _ xs26 _ (hO27.rs (fun _ => rfl)) (by omega) (by omega)) ?_)
    rintro _ w35 ⟨A37, c38, rfl, hO39, hch36⟩
    have hsz40 := hch36.size
    replace hR0 := hR0.ch0 hch36
    replace hO27 := hO27.ch0 hch36
    replace hc := hc.step0 hch36
    have hub41 := hO39.lt
    have hcap42 : (sumsV xs26).length ≤ c38 := by obtain ⟨_, _, hv, h1, _⟩ := hO39.form; injection hv with _ _ h3; omega
    have hnt43 := sumsV_le xs26
    refine rw_cons (op_pv (w0 rfl) rfl rfl (pv_move (v := (.tuple #[(.slice A37 (sumsV xs26).length c38), (.bool (dec (BytesOK xs26)))])) rfl rfl) ?_)
    refine rw_cons (op_pv (w0 rfl) rfl rfl (pv_ext (v := (.slice A37 (sumsV xs26).length c38)) rfl rfl rfl) ?_)
    refine rw_cons (op_pv (w0 rfl) rfl rfl (pv_ext (v := (.bool (dec (BytesOK xs26)))) rfl rfl rfl) ?_)
    refine rw_cons (op_pv (w0 rfl) rfl rfl (pv_assign (v := (.slice A37 (sumsV xs26).length c38)) rfl rfl) ?_)
    refine rw_cons (op_pv (w0 rfl) rfl rfl (pv_assign (v := (.bool (dec (BytesOK xs26)))) rfl rfl) ?_)
    refine rw_nil (hK34 _ _ ?_)
    refine hK32 _ _ ?_
    refine cw_seq fun K44 hK45 => ?_
    refine cw_region fun K46 hK47 => ?_
    refine rw_cons (op_pv (w0 rfl) rfl rfl (pv_move (v := (.slice A24 xs26.length c25)) rfl rfl) ?_)
    refine rw_cons (op_call (w0 rfl) rfl rfl (rc_call C22 rfl rfl) (SumsOf_s _ xs26.length _ xs26 _ (hO27.rs (fun _ => rfl)) (by omega) (by omega)) ?_)
    rintro _ w48 ⟨A50, c51, rfl, hO52, hch49⟩
    have hsz53 := hch49.size
    replace hR0 := hR0.ch0 hch49
    replace hO27 := hO27.ch0 hch49
    replace hO39 := hO39.ch0 hch49
    replace hc := hc.step0 hch49
    have hub54 := hO52.lt
    have hcap55 : (sumsV xs26).length ≤ c51 := by obtain ⟨_, _, hv, h1, _⟩ := hO52.form; injection hv with _ _ h3; omega
    have hnt56 := sumsV_le xs26
    refine rw_cons (op_pv (w0 rfl) rfl rfl (pv_move (v := (.tuple #[(.slice A50 (sumsV xs26).length c51), (.bool (dec (BytesOK xs26)))])) rfl rfl) ?_)
    refine rw_cons (op_pv (w0 rfl) rfl rfl (pv_ext (v := (.slice A50 (sumsV xs26).length c51)) rfl rfl rfl) ?_)
    refine rw_cons (op_pv (w0 rfl) rfl rfl (pv_ext (v := (.bool (dec (BytesOK xs26)))) rfl rfl rfl) ?_)
    refine rw_cons (op_pv (w0 rfl) rfl rfl (pv_assign (v := (.slice A50 (sumsV xs26).length c51)) rfl rfl) ?_)
    refine rw_cons (op_pv (w0 rfl) rfl rfl (pv_assign (v := (.bool (dec (BytesOK xs26)))) rfl rfl) ?_)
    refine rw_nil (hK47 _ _ ?_)
    refine hK45 _ _ ?_
    refine cw_seq fun K57 hK58 => ?_
    refine cw_seq fun K59 hK60 => ?_
    refine cw_region fun K61 hK62 => ?_
    refine rw_cons (op_pv (w0 rfl) rfl rfl (pv_move (v := (.bool (dec (BytesOK xs26)))) rfl rfl) ?_)
    refine rw_cons (op_pv (w0 rfl) rfl rfl (pv_move (v := (.bool (dec (BytesOK xs26)))) rfl rfl) ?_)
    refine rw_cons (op_pv (w0 rfl) rfl rfl (pv_neBs Try.underlying4 rfl rfl rfl) ?_)
    refine rw_cons (op_pv (w0 rfl) rfl rfl (pv_move (v := (.bool false)) rfl rfl) ?_)
    refine rw_cons (op_pv (w1y rfl rfl rfl rfl) rfl rfl (pv_move (v := (.slice A37 (sumsV xs26).length c38)) rfl rfl) ?_)
    refine rw_cons (op_pv (w1y rfl rfl rfl rfl) rfl rfl (pv_move (v := (.slice A50 (sumsV xs26).length c51)) rfl rfl) ?_)
    refine rw_cons (op_call (w1y rfl rfl rfl rfl) rfl rfl (rc_call C27 rfl rfl) (sameInts_same _ _ _ _ _ _ (sumsV xs26) _ (hO39.rs (fun _ => rfl)) (hO52.rs (fun _ => rfl)) (by omega)) ?_)
    rintro _ w63 ⟨rfl, hch64⟩
    have hsz65 := hch64.size
    replace hR0 := hR0.ch0 hch64
    replace hO27 := hO27.ch0 hch64
    replace hO39 := hO39.ch0 hch64
    replace hO52 := hO52.ch0 hch64
    replace hc := hc.step0 hch64
    refine rw_cons (op_pv (w1y rfl rfl rfl rfl) rfl rfl (pv_not rfl rfl) ?_)
    refine rw_cons (op_pv (w0 rfl) rfl rfl (pv_pickF (v := (.bool (!true))) rfl rfl rfl) ?_)
    refine rw_cons (op_pv (w0 rfl) rfl rfl (pv_move (v := (.bool (!true))) rfl rfl) ?_)
    refine rw_cons (op_pv (w1y rfl rfl rfl rfl) rfl rfl (pv_move (v := (.bool (dec (BytesOK xs26)))) rfl rfl) ?_)
    refine rw_cons (op_pv (w1y rfl rfl rfl rfl) rfl rfl (pv_not rfl rfl) ?_)
    refine rw_cons (op_pv (w0 rfl) rfl rfl (pv_pickF (v := (.bool (!(dec (BytesOK xs26))))) rfl rfl rfl) ?_)
    refine rw_cons (op_pv (w0 rfl) rfl rfl (pv_move (v := (.bool (!(dec (BytesOK xs26))))) rfl rfl) ?_)
    refine rw_split 40 rfl (fun hb66 => ?_) (fun hb66 => ?_)
    · -- yes
      replace hb66 := not_t hb66
      replace hb66 := dec_f hb66
      refine rw_cons (op_pass (w1n2 rfl rfl rfl rfl) rfl rfl ?_)
      refine rw_cons (op_pass (w1n2 rfl rfl rfl rfl) rfl rfl ?_)
      refine rw_cons (op_pass (w1n2 rfl rfl rfl rfl) rfl rfl ?_)
      refine rw_cons (op_pv (w0 rfl) rfl rfl (pv_pickT (v := (.bool true)) rfl rfl rfl) ?_)
      refine rw_nil (hK62 _ _ ?_)
      refine hK60 _ _ ?_
      refine cw_cond rfl (fun h67 => ?_) (fun h67 => ?_)
      · -- then
        clear h67
        refine cw_seq fun K68 hK69 => ?_
        refine cw_region fun K70 hK71 => ?_
        refine rw_cons (op_pv (w0 rfl) rfl rfl (pv_move (v := (.bool (dec (BytesOK xs26)))) rfl rfl) ?_)
        refine rw_cons (op_pv (w0 rfl) rfl rfl (pv_move (v := (.bool (dec (BytesOK xs26)))) rfl rfl) ?_)
        refine rw_cons (op_pv (w0 rfl) rfl rfl (pv_eqBs Try.underlying4 rfl rfl rfl) ?_)
        refine rw_cons (op_pv (w0 rfl) rfl rfl (pv_move (v := (.bool true)) rfl rfl) ?_)
        refine rw_cons (op_pv (w1y rfl rfl rfl rfl) rfl rfl (pv_move (v := (.slice A37 (sumsV xs26).length c38)) rfl rfl) ?_)
        refine rw_cons (op_pv (w1y rfl rfl rfl rfl) rfl rfl (pv_move (v := (.slice A50 (sumsV xs26).length c51)) rfl rfl) ?_)
        refine rw_cons (op_call (w1y rfl rfl rfl rfl) rfl rfl (rc_call C27 rfl rfl) (sameInts_same _ _ _ _ _ _ (sumsV xs26) _ (hO39.rs (fun _ => rfl)) (hO52.rs (fun _ => rfl)) (by omega)) ?_)
        rintro _ w72 ⟨rfl, hch73⟩
        have hsz74 := hch73.size
        replace hR0 := hR0.ch0 hch73
        replace hO27 := hO27.ch0 hch73
        replace hO39 := hO39.ch0 hch73
        replace hO52 := hO52.ch0 hch73
        replace hc := hc.step0 hch73
        refine rw_cons (op_pv (w0 rfl) rfl rfl (pv_pickT (v := (.bool true)) rfl rfl rfl) ?_)
        refine rw_cons (op_pv (w0 rfl) rfl rfl (pv_assign (v := (.bool true)) rfl rfl) ?_)
        refine rw_nil (hK71 _ _ ?_)
        refine hK69 _ _ ?_
        refine cw_ret ?_
        refine fin1 rfl ?_
        exact ⟨rfl, hc⟩
      · -- else
        cases h67
    · -- no
      replace hb66 := not_f hb66
      replace hb66 := dec_t hb66
      refine rw_cons (op_pv (w1y rfl rfl rfl rfl) rfl rfl (pv_move (v := (.slice A24 xs26.length c25)) rfl rfl) ?_)
      refine rw_cons (op_pv (w1y rfl rfl rfl rfl) rfl rfl (pv_len Try.underlying22 rfl rfl) ?_)
      refine rw_cons (op_pv (w1y rfl rfl rfl rfl) rfl rfl (pv_lss rfl rfl rfl) ?_)
      refine rw_cons (op_pv (w0 rfl) rfl rfl (pv_pickF (v := (.bool (decide ((xs26.length : Int) < 4)))) rfl rfl rfl) ?_)
      refine rw_nil (hK62 _ _ ?_)
      refine hK60 _ _ ?_
      refine cw_cond rfl (fun h75 => ?_) (fun h75 => ?_)
      · -- then
        replace h75 := of_decide_eq_true h75
        refine cw_seq fun K76 hK77 => ?_
        refine cw_region fun K78 hK79 => ?_
        refine rw_cons (op_pv (w0 rfl) rfl rfl (pv_move (v := (.bool (dec (BytesOK xs26)))) rfl rfl) ?_)
        refine rw_cons (op_pv (w0 rfl) rfl rfl (pv_move (v := (.bool (dec (BytesOK xs26)))) rfl rfl) ?_)
        refine rw_cons (op_pv (w0 rfl) rfl rfl (pv_eqBs Try.underlying4 rfl rfl rfl) ?_)
        refine rw_cons (op_pv (w0 rfl) rfl rfl (pv_move (v := (.bool true)) rfl rfl) ?_)
        refine rw_cons (op_pv (w1y rfl rfl rfl rfl) rfl rfl (pv_move (v := (.slice A37 (sumsV xs26).length c38)) rfl rfl) ?_)
        refine rw_cons (op_pv (w1y rfl rfl rfl rfl) rfl rfl (pv_move (v := (.slice A50 (sumsV xs26).length c51)) rfl rfl) ?_)
        refine rw_cons (op_call (w1y rfl rfl rfl rfl) rfl rfl (rc_call C27 rfl rfl) (sameInts_same _ _ _ _ _ _ (sumsV xs26) _ (hO39.rs (fun _ => rfl)) (hO52.rs (fun _ => rfl)) (by omega)) ?_)
        rintro _ w80 ⟨rfl, hch81⟩
        have hsz82 := hch81.size
        replace hR0 := hR0.ch0 hch81
        replace hO27 := hO27.ch0 hch81
        replace hO39 := hO39.ch0 hch81
        replace hO52 := hO52.ch0 hch81
        replace hc := hc.step0 hch81
        refine rw_cons (op_pv (w0 rfl) rfl rfl (pv_pickT (v := (.bool true)) rfl rfl rfl) ?_)
        refine rw_cons (op_pv (w0 rfl) rfl rfl (pv_assign (v := (.bool true)) rfl rfl) ?_)
        refine rw_nil (hK79 _ _ ?_)
        refine hK77 _ _ ?_
        refine cw_ret ?_
        refine fin1 rfl ?_
        exact ⟨rfl, hc⟩
      · -- else
        replace h75 := of_decide_eq_false h75
        refine cw_skip ?_
        refine hK58 _ _ ?_
        refine cw_seq fun K83 hK84 => ?_
        refine cw_region fun K85 hK86 => ?_
        refine rw_cons (op_pv (w0 rfl) rfl rfl (pv_move (v := (.slice A24 xs26.length c25)) rfl rfl) ?_)
        refine rw_cons (op_pv (w0 rfl) rfl rfl (pv_upto Try.underlying22 T3 rfl rfl rfl (by omega) (by omega)) ?_)
        have hR87 : RS encI 1 w63 w63.heap.size A24 4 (xs26.take 4) := ((hO27.rs (fun _ => rfl))).upto (by omega)
        refine rw_cons (op_call (w0 rfl) rfl rfl (rc_call C23 rfl rfl) (SumsOf_i _ 4 _ (xs26.take 4) _ (hR87.more (by omega)) (by omega) (by omega)) ?_)
        rintro _ w88 ⟨A90, c91, rfl, hO92, hch89⟩
        have hsz93 := hch89.size
        replace hR0 := hR0.ch0 hch89
        replace hO27 := hO27.ch0 hch89
        replace hO39 := hO39.ch0 hch89
        replace hO52 := hO52.ch0 hch89
        replace hR87 := hR87.ch0 hch89
        replace hc := hc.step0 hch89
        have hub94 := hO92.lt
        have hcap95 : (sumsV (xs26.take 4)).length ≤ c91 := by obtain ⟨_, _, hv, h1, _⟩ := hO92.form; injection hv with _ _ h3; omega
        have hnt96 := sumsV_le (xs26.take 4)
        refine rw_cons (op_pv (w0 rfl) rfl rfl (pv_move (v := (.tuple #[(.slice A90 (sumsV (xs26.take 4)).length c91), (.bool (dec (BytesOK (xs26.take 4))))])) rfl rfl) ?_)
        refine rw_cons (op_pv (w0 rfl) rfl rfl (pv_ext (v := (.slice A90 (sumsV (xs26.take 4)).length c91)) rfl rfl rfl) ?_)
        refine rw_cons (op_pv (w0 rfl) rfl rfl (pv_ext (v := (.bool (dec (BytesOK (xs26.take 4))))) rfl rfl rfl) ?_)
        refine rw_cons (op_pv (w0 rfl) rfl rfl (pv_assign (v := (.slice A90 (sumsV (xs26.take 4)).length c91)) rfl rfl) ?_)
        refine rw_cons (op_pv (w0 rfl) rfl rfl (pv_assign (v := (.bool (dec (BytesOK (xs26.take 4))))) rfl rfl) ?_)
        refine rw_nil (hK86 _ _ ?_)
        refine hK84 _ _ ?_
        refine cw_seq fun K97 hK98 => ?_
        refine cw_region fun K99 hK100 => ?_
        refine rw_cons (op_pv (w0 rfl) rfl rfl (pv_move (v := (.slice A24 xs26.length c25)) rfl rfl) ?_)
        refine rw_cons (op_pv (w0 rfl) rfl rfl (pv_from Try.underlying22 T3 rfl rfl rfl (by omega) (by omega)) ?_)
        have hR101 : RS encI 1 w88 w88.heap.size (if c25 = 4 then A24 else (A24).map (·.add (4 * 1))) (xs26.length - 4) (xs26.drop 4) := ((hO27.rs (fun _ => rfl))).from (by omega) (by omega)
        refine rw_cons (op_call (w0 rfl) rfl rfl (rc_call C23 rfl rfl) (SumsOf_i _ (xs26.length - 4) _ (xs26.drop 4) _ (hR101.more (by omega)) (by omega) (by omega)) ?_)
        rintro _ w102 ⟨A104, c105, rfl, hO106, hch103⟩
        have hsz107 := hch103.size
        replace hR0 := hR0.ch0 hch103
        replace hO27 := hO27.ch0 hch103
        replace hO39 := hO39.ch0 hch103
        replace hO52 := hO52.ch0 hch103
        replace hR87 := hR87.ch0 hch103
        replace hO92 := hO92.ch0 hch103
        replace hR101 := hR101.ch0 hch103
        replace hc := hc.step0 hch103
        have hub108 := hO106.lt
        have hcap109 : (sumsV (xs26.drop 4)).length ≤ c105 := by obtain ⟨_, _, hv, h1, _⟩ := hO106.form; injection hv with _ _ h3; omega
        have hnt110 := sumsV_le (xs26.drop 4)
        refine rw_cons (op_pv (w0 rfl) rfl rfl (pv_move (v := (.tuple #[(.slice A104 (sumsV (xs26.drop 4)).length c105), (.bool (dec (BytesOK (xs26.drop 4))))])) rfl rfl) ?_)
        refine rw_cons (op_pv (w0 rfl) rfl rfl (pv_ext (v := (.slice A104 (sumsV (xs26.drop 4)).length c105)) rfl rfl rfl) ?_)
        refine rw_cons (op_pv (w0 rfl) rfl rfl (pv_ext (v := (.bool (dec (BytesOK (xs26.drop 4))))) rfl rfl rfl) ?_)
        refine rw_cons (op_pv (w0 rfl) rfl rfl (pv_assign (v := (.slice A104 (sumsV (xs26.drop 4)).length c105)) rfl rfl) ?_)
        refine rw_cons (op_pv (w0 rfl) rfl rfl (pv_assign (v := (.bool (dec (BytesOK (xs26.drop 4))))) rfl rfl) ?_)
        refine rw_nil (hK100 _ _ ?_)
        refine hK98 _ _ ?_
        refine cw_seq fun K111 hK112 => ?_
        refine cw_region fun K113 hK114 => ?_
        refine rw_cons (op_pv (w0 rfl) rfl rfl (pv_move (v := (.bool (dec (BytesOK (xs26.take 4))))) rfl rfl) ?_)
        refine rw_cons (op_pv (w0 rfl) rfl rfl (pv_move (v := (.bool (dec (BytesOK (xs26.take 4))))) rfl rfl) ?_)
        refine rw_split 66 rfl (fun hb115 => ?_) (fun hb115 => ?_)
        · -- yes
          replace hb115 := dec_t hb115
          refine rw_cons (op_pv (w1y rfl rfl rfl rfl) rfl rfl (pv_move (v := (.bool (dec (BytesOK (xs26.drop 4))))) rfl rfl) ?_)
          refine rw_cons (op_pv (w0 rfl) rfl rfl (pv_pickT (v := (.bool (dec (BytesOK (xs26.drop 4))))) rfl rfl rfl) ?_)
          refine rw_cons (op_pv (w0 rfl) rfl rfl (pv_move (v := (.bool (dec (BytesOK (xs26.drop 4))))) rfl rfl) ?_)
          refine rw_split 69 rfl (fun hb116 => ?_) (fun hb116 => ?_)
          · -- yes
            replace hb116 := dec_t hb116
            refine rw_cons (op_bslice [] Try.underlying22 T3 (w1y rfl rfl rfl rfl) rfl rfl rfl rfl rfl (by simp [Value.cells]) (by decide) ?_)
            intro g118 w117 hg121 hg122 hK120 hch119
            have hO123 : Own encI 1 w117 w102.heap.size 3 (.slice (some ⟨g118, 0, none⟩) 0 0) ([] : List Int) := Blk.own (xs := ([] : List Int)) hK120 (by omega) rfl (by decide) rfl
            have hsz124 := hch119.size
            replace hR0 := hR0.ch0 hch119
            replace hO27 := hO27.ch0 hch119
            replace hO39 := hO39.ch0 hch119
            replace hO52 := hO52.ch0 hch119
            replace hR87 := hR87.ch0 hch119
            replace hO92 := hO92.ch0 hch119
            replace hR101 := hR101.ch0 hch119
            replace hO106 := hO106.ch0 hch119
            replace hc := hc.step0 hch119
            have hub125 := hO123.lt
            refine rw_cons (op_pv (w1y rfl rfl rfl rfl) rfl rfl (pv_move (v := (.slice A90 (sumsV (xs26.take 4)).length c91)) rfl rfl) ?_)
            refine rw_cons (op_append Try.underlying22 T3 (fun _ => rfl) rfl (by decide) (fun _ => one_all rfl) (w1y rfl rfl rfl rfl) rfl rfl rfl rfl rfl hO123 (hO92.rs (fun _ => rfl)) (by unfold maxLen; first | omega | (simp; omega)) (by first | omega | (simp; omega)) (by omega) ?_)
            rintro v126 w127 hO128 hch129 hs130
            replace hO128 : Own encI 1 w127 w102.heap.size 3 v126 (sumsV (xs26.take 4)) := hO128
            have hl131 : (sumsV (xs26.take 4)).length = 0 + (sumsV (xs26.take 4)).length := by first | (have hl0 := (hO92.rs (fun _ => rfl)).len; simp only [List.length_append, List.length_cons, List.length_nil] at hl0 ⊢; omega) | simp | rfl
            have hsz132 := hch129.size
            replace hR0 := hR0.ch hch129 (hO123.off.le (by omega))
            replace hO27 := hO27.ch hch129 (fun s hs hs2 => by first | (have h1 := hO27.off s hs; have h2 := hub125 s hs2; omega) | (have h1 := hub28 s hs; have h2 := hO123.off s hs2; omega) | (have h2 := hub125 s hs2; simp [obl, Value.ownBlock] at hs; omega) | (have h1 := hub28 s hs; simp [obl, Value.ownBlock] at hs2; omega))
            replace hO39 := hO39.ch hch129 (fun s hs hs2 => by first | (have h1 := hO39.off s hs; have h2 := hub125 s hs2; omega) | (have h1 := hub41 s hs; have h2 := hO123.off s hs2; omega) | (have h2 := hub125 s hs2; simp [obl, Value.ownBlock] at hs; omega) | (have h1 := hub41 s hs; simp [obl, Value.ownBlock] at hs2; omega))
            replace hO52 := hO52.ch hch129 (fun s hs hs2 => by first | (have h1 := hO52.off s hs; have h2 := hub125 s hs2; omega) | (have h1 := hub54 s hs; have h2 := hO123.off s hs2; omega) | (have h2 := hub125 s hs2; simp [obl, Value.ownBlock] at hs; omega) | (have h1 := hub54 s hs; simp [obl, Value.ownBlock] at hs2; omega))
            replace hR87 := hR87.ch hch129 (hO123.off.le (by omega))
            replace hO92 := hO92.ch hch129 (fun s hs hs2 => by first | (have h1 := hO92.off s hs; have h2 := hub125 s hs2; omega) | (have h1 := hub94 s hs; have h2 := hO123.off s hs2; omega) | (have h2 := hub125 s hs2; simp [obl, Value.ownBlock] at hs; omega) | (have h1 := hub94 s hs; simp [obl, Value.ownBlock] at hs2; omega))
            replace hR101 := hR101.ch hch129 (hO123.off.le (by omega))
            replace hO106 := hO106.ch hch129 (fun s hs hs2 => by first | (have h1 := hO106.off s hs; have h2 := hub125 s hs2; omega) | (have h1 := hub108 s hs; have h2 := hO123.off s hs2; omega) | (have h2 := hub125 s hs2; simp [obl, Value.ownBlock] at hs; omega) | (have h1 := hub108 s hs; simp [obl, Value.ownBlock] at hs2; omega))
            replace hc := (hO123.off.le (by omega)).step hc hch129
            have hub133 := hO128.lt
            obtain ⟨A134, c135, hv136, hcap137, hcap138⟩ := hO128.form; subst hv136
            refine rw_cons (op_pv (w1y rfl rfl rfl rfl) rfl rfl (pv_move (v := (.slice A104 (sumsV (xs26.drop 4)).length c105)) rfl rfl) ?_)
            refine rw_cons (op_append Try.underlying22 T3 (fun _ => rfl) rfl (by decide) (fun _ => one_all rfl) (w1y rfl rfl rfl rfl) rfl rfl rfl rfl rfl hO128 (hO106.rs (fun _ => rfl)) (by unfold maxLen; first | omega | (simp; omega)) (by first | omega | (simp; omega)) (by omega) ?_)
            rintro v139 w140 hO141 hch142 hs143
            have hl144 : ((sumsV (xs26.take 4)) ++ (sumsV (xs26.drop 4))).length = (sumsV (xs26.take 4)).length + (sumsV (xs26.drop 4)).length := by first | (have hl0 := (hO106.rs (fun _ => rfl)).len; simp only [List.length_append, List.length_cons, List.length_nil] at hl0 ⊢; omega) | simp | rfl
            have hsz145 := hch142.size
            replace hR0 := hR0.ch hch142 (hO128.off.le (by omega))
            replace hO27 := hO27.ch hch142 (fun s hs hs2 => by first | (have h1 := hO27.off s hs; have h2 := hub133 s hs2; omega) | (have h1 := hub28 s hs; have h2 := hO128.off s hs2; omega) | (have h2 := hub133 s hs2; simp [obl, Value.ownBlock] at hs; omega) | (have h1 := hub28 s hs; simp [obl, Value.ownBlock] at hs2; omega))
            replace hO39 := hO39.ch hch142 (fun s hs hs2 => by first | (have h1 := hO39.off s hs; have h2 := hub133 s hs2; omega) | (have h1 := hub41 s hs; have h2 := hO128.off s hs2; omega) | (have h2 := hub133 s hs2; simp [obl, Value.ownBlock] at hs; omega) | (have h1 := hub41 s hs; simp [obl, Value.ownBlock] at hs2; omega))
            replace hO52 := hO52.ch hch142 (fun s hs hs2 => by first | (have h1 := hO52.off s hs; have h2 := hub133 s hs2; omega) | (have h1 := hub54 s hs; have h2 := hO128.off s hs2; omega) | (have h2 := hub133 s hs2; simp [obl, Value.ownBlock] at hs; omega) | (have h1 := hub54 s hs; simp [obl, Value.ownBlock] at hs2; omega))
            replace hR87 := hR87.ch hch142 (hO128.off.le (by omega))
            replace hO92 := hO92.ch hch142 (fun s hs hs2 => by first | (have h1 := hO92.off s hs; have h2 := hub133 s hs2; omega) | (have h1 := hub94 s hs; have h2 := hO128.off s hs2; omega) | (have h2 := hub133 s hs2; simp [obl, Value.ownBlock] at hs; omega) | (have h1 := hub94 s hs; simp [obl, Value.ownBlock] at hs2; omega))
            replace hR101 := hR101.ch hch142 (hO128.off.le (by omega))
            replace hO106 := hO106.ch hch142 (fun s hs hs2 => by first | (have h1 := hO106.off s hs; have h2 := hub133 s hs2; omega) | (have h1 := hub108 s hs; have h2 := hO128.off s hs2; omega) | (have h2 := hub133 s hs2; simp [obl, Value.ownBlock] at hs; omega) | (have h1 := hub108 s hs; simp [obl, Value.ownBlock] at hs2; omega))
            replace hc := (hO128.off.le (by omega)).step hc hch142
            have hub146 := hO141.lt
            obtain ⟨A147, c148, hv149, hcap150, hcap151⟩ := hO141.form; subst hv149
            refine rw_cons (op_pv (w1y rfl rfl rfl rfl) rfl rfl (pv_move (v := (.slice A37 (sumsV xs26).length c38)) rfl rfl) ?_)
            refine rw_cons (op_call (w1y rfl rfl rfl rfl) rfl rfl (rc_call C27 rfl rfl) (sameInts_ok _ _ _ _ _ _ ((sumsV (xs26.take 4)) ++ (sumsV (xs26.drop 4))) (sumsV xs26) _ (hO141.rs (fun _ => rfl)) (hO39.rs (fun _ => rfl)) (by omega)) ?_)
            rintro _ w152 ⟨rfl, hch153⟩
            have hsz154 := hch153.size
            replace hR0 := hR0.ch0 hch153
            replace hO27 := hO27.ch0 hch153
            replace hO39 := hO39.ch0 hch153
            replace hO52 := hO52.ch0 hch153
            replace hR87 := hR87.ch0 hch153
            replace hO92 := hO92.ch0 hch153
            replace hR101 := hR101.ch0 hch153
            replace hO106 := hO106.ch0 hch153
            replace hO141 := hO141.ch0 hch153
            replace hc := hc.step0 hch153
            refine rw_cons (op_pv (w0 rfl) rfl rfl (pv_pickT (v := (.bool (dec (((sumsV (xs26.take 4)) ++ (sumsV (xs26.drop 4))) = (sumsV xs26))))) rfl rfl rfl) ?_)
            refine rw_cons (op_pv (w0 rfl) rfl rfl (pv_assign (v := (.bool (dec (((sumsV (xs26.take 4)) ++ (sumsV (xs26.drop 4))) = (sumsV xs26))))) rfl rfl) ?_)
            refine rw_nil (hK114 _ _ ?_)
            refine hK112 _ _ ?_
            refine cw_ret ?_
            refine fin1 rfl ?_
            rcases Classical.em (BytesOK xs26) with hbo | hbo
            · have e1 := sumsV_yes hbo; have e2 := sumsL_len xs26; have e3 : nparts xs26 = (xs26.length + 3) / 4 := rfl
              have e5 : (sumsV xs26).length = (xs26.length + 3) / 4 := by rw [e1, e2, e3]
              have e7 : 4 ≤ xs26.length → sumsV (xs26.take 4) ++ sumsV (xs26.drop 4) = sumsV xs26 := fun h4 => by rw [sumsV_yes (bytes_take hbo 4), sumsV_yes (bytes_drop hbo 4), e1]; exact sums_parts h4
              first
                | exact ⟨rfl, hc⟩
                | (exfalso; omega)
                | exact ⟨congrArg Value.bool (decide_eq_true (by omega)), hc⟩
                | exact absurd (bytes_take hbo 4) (by assumption)
                | exact absurd (bytes_drop hbo 4) (by assumption)
                | exact ⟨congrArg Value.bool (dec_yes (e7 (by omega))), hc⟩
            · first
                | exact absurd ‹BytesOK xs26› hbo
                | exact ⟨rfl, hc⟩
          · -- no
            replace hb116 := dec_f hb116
            refine rw_cons (op_pass (w1n1 rfl rfl rfl rfl) rfl rfl ?_)
            refine rw_cons (op_pass (w1n1 rfl rfl rfl rfl) rfl rfl ?_)
            refine rw_cons (op_pass (w1n1 rfl rfl rfl rfl) rfl rfl ?_)
            refine rw_cons (op_pass (w1n1 rfl rfl rfl rfl) rfl rfl ?_)
            refine rw_cons (op_pass (w1n1 rfl rfl rfl rfl) rfl rfl ?_)
            refine rw_cons (op_pass (w1n1 rfl rfl rfl rfl) rfl rfl ?_)
            refine rw_cons (op_pass (w1n1 rfl rfl rfl rfl) rfl rfl ?_)
            refine rw_cons (op_pv (w0 rfl) rfl rfl (pv_pickF (v := (.bool false)) rfl rfl rfl) ?_)
            refine rw_cons (op_pv (w0 rfl) rfl rfl (pv_assign (v := (.bool false)) rfl rfl) ?_)
            refine rw_nil (hK114 _ _ ?_)
            refine hK112 _ _ ?_
            refine cw_ret ?_
            refine fin1 rfl ?_
            rcases Classical.em (BytesOK xs26) with hbo | hbo
            · have e1 := sumsV_yes hbo; have e2 := sumsL_len xs26; have e3 : nparts xs26 = (xs26.length + 3) / 4 := rfl
              have e5 : (sumsV xs26).length = (xs26.length + 3) / 4 := by rw [e1, e2, e3]
              have e7 : 4 ≤ xs26.length → sumsV (xs26.take 4) ++ sumsV (xs26.drop 4) = sumsV xs26 := fun h4 => by rw [sumsV_yes (bytes_take hbo 4), sumsV_yes (bytes_drop hbo 4), e1]; exact sums_parts h4
              first
                | exact ⟨rfl, hc⟩
                | (exfalso; omega)
                | exact ⟨congrArg Value.bool (decide_eq_true (by omega)), hc⟩
                | exact absurd (bytes_take hbo 4) (by assumption)
                | exact absurd (bytes_drop hbo 4) (by assumption)
                | exact ⟨congrArg Value.bool (dec_yes (e7 (by omega))), hc⟩
            · first
                | exact absurd ‹BytesOK xs26› hbo
                | exact ⟨rfl, hc⟩
        · -- no
          replace hb115 := dec_f hb115
          refine rw_cons (op_pass (w1n1 rfl rfl rfl rfl) rfl rfl ?_)
          refine rw_cons (op_pv (w0 rfl) rfl rfl (pv_pickF (v := (.bool false)) rfl rfl rfl) ?_)
          refine rw_cons (op_pv (w0 rfl) rfl rfl (pv_move (v := (.bool false)) rfl rfl) ?_)
          refine rw_cons (op_pass (w1n1 rfl rfl rfl rfl) rfl rfl ?_)
          refine rw_cons (op_pass (w1n1 rfl rfl rfl rfl) rfl rfl ?_)
          refine rw_cons (op_pass (w1n1 rfl rfl rfl rfl) rfl rfl ?_)
          refine rw_cons (op_pass (w1n1 rfl rfl rfl rfl) rfl rfl ?_)
          refine rw_cons (op_pass (w1n1 rfl rfl rfl rfl) rfl rfl ?_)
          refine rw_cons (op_pass (w1n1 rfl rfl rfl rfl) rfl rfl ?_)
          refine rw_cons (op_pass (w1n1 rfl rfl rfl rfl) rfl rfl ?_)
          refine rw_cons (op_pv (w0 rfl) rfl rfl (pv_pickF (v := (.bool false)) rfl rfl rfl) ?_)
          refine rw_cons (op_pv (w0 rfl) rfl rfl (pv_assign (v := (.bool false)) rfl rfl) ?_)
          refine rw_nil (hK114 _ _ ?_)
          refine hK112 _ _ ?_
          refine cw_ret ?_
          refine fin1 rfl ?_
          rcases Classical.em (BytesOK xs26) with hbo | hbo
          · have e1 := sumsV_yes hbo; have e2 := sumsL_len xs26; have e3 : nparts xs26 = (xs26.length + 3) / 4 := rfl
            have e5 : (sumsV xs26).length = (xs26.length + 3) / 4 := by rw [e1, e2, e3]
            have e7 : 4 ≤ xs26.length → sumsV (xs26.take 4) ++ sumsV (xs26.drop 4) = sumsV xs26 := fun h4 => by rw [sumsV_yes (bytes_take hbo 4), sumsV_yes (bytes_drop hbo 4), e1]; exact sums_parts h4
            first
              | exact ⟨rfl, hc⟩
              | (exfalso; omega)
              | exact ⟨congrArg Value.bool (decide_eq_true (by omega)), hc⟩
              | exact absurd (bytes_take hbo 4) (by assumption)
              | exact absurd (bytes_drop hbo 4) (by assumption)
              | exact ⟨congrArg Value.bool (dec_yes (e7 (by omega))), hc⟩
          · first
              | exact absurd ‹BytesOK xs26› hbo
              | exact ⟨rfl, hc⟩
end Go.Proofs.Ythgnnpafieifmaa

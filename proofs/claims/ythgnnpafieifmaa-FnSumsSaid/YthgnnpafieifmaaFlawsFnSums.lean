/-
  The walk of laws.FnSums, written by program: each line names the law of one operation. Conditions: those of the theorem.
-/
import Derived.Test.YthgnnpafieifmaaProg
import Derived.Test.YthgnnpafieifmaaFspecDrawSumsOf
import Derived.Test.YthgnnpafieifmaaFimplSumsOf
import Derived.Test.YthgnnpafieifmaaFspecSumsOf
import Derived.Test.YthgnnpafieifmaaFimplSumsBad
import Derived.Test.YthgnnpafieifmaaFlawssameInts
import Derived.KernelRfl
namespace Go.Proofs.Ythgnnpafieifmaa
open Go Go.RowKit
set_option linter.unusedVariables false
set_option linter.unusedSimpArgs false
namespace FnSums_okF
theorem C22 : Callable Try.prog 22 := ⟨_, Try.func22, by kernel_rfl, by kernel_rfl⟩
theorem C23 : Callable Try.prog 23 := ⟨_, Try.func23, by kernel_rfl, by kernel_rfl⟩
theorem C26 : Callable Try.prog 26 := ⟨_, Try.func26, by kernel_rfl, by kernel_rfl⟩
theorem C27 : Callable Try.prog 27 := ⟨_, Try.func27, by kernel_rfl, by kernel_rfl⟩
theorem C29 : Callable Try.prog 29 := ⟨_, Try.func29, by kernel_rfl, by kernel_rfl⟩
end FnSums_okF
open FnSums_okF in
set_option maxHeartbeats 4000000 in
theorem FnSums_ok (A0 : Option Addr) (n0 c0 : Nat) (xs0 : List UInt8) (w : World) (hR0 : RS encU 1 w w.heap.size A0 n0 xs0) (hn0 : n0 ≤ c0) :
    Fn Try.prog 8 [(.slice A0 n0 c0)] w fun v w' => v = .bool true ∧ Ch [] w w' := by
  have hlen0 := hR0.len
  refine fn_of (n := 59) Try.func8 rfl rfl rfl rfl ?_
  have hc : Ch [] w w := Ch.refl _ _
  refine cw_seq fun K1 hK2 => ?_
  refine cw_region fun K3 hK4 => ?_
  refine rw_cons (op_pv (w0 rfl) rfl rfl (pv_assign (v := (.bool false)) rfl rfl) ?_)
  refine rw_nil (hK4 _ _ ?_)
  refine hK2 _ _ ?_
  refine cw_seq fun K5 hK6 => ?_
  refine cw_seq fun K7 hK8 => ?_
  refine cw_region fun K9 hK10 => ?_
  refine rw_cons (op_pv (w0 rfl) rfl rfl (pv_move (v := (.slice A0 n0 c0)) rfl rfl) ?_)
  refine rw_cons (op_pv (w0 rfl) rfl rfl (pv_len Try.underlying26 rfl rfl) ?_)
  refine rw_cons (op_pv (w0 rfl) rfl rfl (pv_gtr rfl rfl rfl) ?_)
  refine rw_nil (hK10 _ _ ?_)
  refine hK8 _ _ ?_
  refine cw_cond rfl (fun h11 => ?_) (fun h11 => ?_)
  · -- then
    replace h11 := of_decide_eq_true h11
    refine cw_seq fun K12 hK13 => ?_
    refine cw_region fun K14 hK15 => ?_
    refine rw_cons (op_pv (w0 rfl) rfl rfl (pv_assign (v := (.bool true)) rfl rfl) ?_)
    refine rw_nil (hK15 _ _ ?_)
    refine hK13 _ _ ?_
    refine cw_ret ?_
    refine fin1 rfl ?_
    exact ⟨rfl, hc⟩
  · -- else
    replace h11 := of_decide_eq_false h11
    refine cw_skip ?_
    refine hK6 _ _ ?_
    refine cw_seq fun K16 hK17 => ?_
    refine cw_region fun K18 hK19 => ?_
    refine rw_cons (op_pv (w0 rfl) rfl rfl (pv_move (v := (.slice A0 n0 c0)) rfl rfl) ?_)
    refine rw_cons (op_call (w0 rfl) rfl rfl (rc_call C26 rfl rfl) (DrawSumsOf_ok _ _ _ _ _ (hR0.more (by omega)) (by omega)) ?_)
    rintro _ w20 ⟨A24, c25, xs26, rfl, hO27, hl21, hdr22, hch23⟩
    have hsz29 := hch23.size
    replace hR0 := hR0.ch0 hch23
    replace hc := hc.step0 hch23
    have hub28 := hO27.lt
    have hcap30 : xs26.length ≤ c25 := by obtain ⟨_, _, hv, h1, _⟩ := hO27.form; injection hv with _ _ h3; omega
    refine rw_cons (op_pv (w0 rfl) rfl rfl (pv_assign (v := (.slice A24 xs26.length c25)) rfl rfl) ?_)
    refine rw_nil (hK19 _ _ ?_)
    refine hK17 _ _ ?_
    refine cw_seq fun K31 hK32 => ?_
    refine cw_region fun K33 hK34 => ?_
    refine rw_cons (op_pv (w0 rfl) rfl rfl (pv_move (v := (.slice A24 xs26.length c25)) rfl rfl) ?_)
    refine rw_cons (op_call (w0 rfl) rfl rfl (rc_call C23 rfl rfl) (SumsOf_i _ xs26.length _ xs26 _ (hO27.rs (fun _ => rfl)) (by omega) (by omega)) ?_)
    rintro _ w35 ⟨A37, c38, rfl, hO39, hch36⟩
    have hsz40 := hch36.size
    replace hR0 := hR0.ch0 hch36
    replace hO27 := hO27.ch0 hch36
    replace hc := hc.step0 hch36
    have hub41 := hO39.lt
    have hcap42 : (sumsV xs26).length ≤ c38 := by obtain ⟨_, _, hv, h1, _⟩ := hO39.form; injection hv with _ _ h3; omega
    have hnt43 := sumsV_le xs26
    refine rw_cons (op_pv (w0 rfl) rfl rfl (pv_move (v := (.tuple #[(.slice A37 (sumsV xs26).length c38), (.bool (dec (BytesOK xs26)))])) rfl rfl) ?_)
    refine rw_cons (op_pv (w0 rfl) rfl rfl (pv_ext (v := (.slice A37 (sumsV xs26).length c38)) rfl rfl rfl) ?_)
    refine rw_cons (op_pv (w0 rfl) rfl rfl (pv_ext (v := (.bool (dec (BytesOK xs26)))) rfl rfl rfl) ?_)
    refine rw_cons (op_pv (w0 rfl) rfl rfl (pv_assign (v := (.slice A37 (sumsV xs26).length c38)) rfl rfl) ?_)
    refine rw_cons (op_pv (w0 rfl) rfl rfl (pv_assign (v := (.bool (dec (BytesOK xs26)))) rfl rfl) ?_)
    refine rw_nil (hK34 _ _ ?_)
    refine hK32 _ _ ?_
    refine cw_seq fun K44 hK45 => ?_
    refine cw_region fun K46 hK47 => ?_
    refine rw_cons (op_pv (w0 rfl) rfl rfl (pv_move (v := (.slice A24 xs26.length c25)) rfl rfl) ?_)
    refine rw_cons (op_call (w0 rfl) rfl rfl (rc_call C22 rfl rfl) (SumsOf_s _ xs26.length _ xs26 _ (hO27.rs (fun _ => rfl)) (by omega) (by omega)) ?_)
    rintro _ w48 ⟨A50, c51, rfl, hO52, hch49⟩
    have hsz53 := hch49.size
    replace hR0 := hR0.ch0 hch49
    replace hO27 := hO27.ch0 hch49
    replace hO39 := hO39.ch0 hch49
    replace hc := hc.step0 hch49
    have hub54 := hO52.lt
    have hcap55 : (sumsV xs26).length ≤ c51 := by obtain ⟨_, _, hv, h1, _⟩ := hO52.form; injection hv with _ _ h3; omega
    have hnt56 := sumsV_le xs26
    refine rw_cons (op_pv (w0 rfl) rfl rfl (pv_move (v := (.tuple #[(.slice A50 (sumsV xs26).length c51), (.bool (dec (BytesOK xs26)))])) rfl rfl) ?_)
    refine rw_cons (op_pv (w0 rfl) rfl rfl (pv_ext (v := (.slice A50 (sumsV xs26).length c51)) rfl rfl rfl) ?_)
    refine rw_cons (op_pv (w0 rfl) rfl rfl (pv_ext (v := (.bool (dec (BytesOK xs26)))) rfl rfl rfl) ?_)
    refine rw_cons (op_pv (w0 rfl) rfl rfl (pv_assign (v := (.slice A50 (sumsV xs26).length c51)) rfl rfl) ?_)
    refine rw_cons (op_pv (w0 rfl) rfl rfl (pv_assign (v := (.bool (dec (BytesOK xs26)))) rfl rfl) ?_)
    refine rw_nil (hK47 _ _ ?_)
    refine hK45 _ _ ?_
    refine cw_seq fun K57 hK58 => ?_
    refine cw_seq fun K59 hK60 => ?_
    refine cw_region fun K61 hK62 => ?_
    refine rw_cons (op_pv (w0 rfl) rfl rfl (pv_move (v := (.bool (dec (BytesOK xs26)))) rfl rfl) ?_)
    refine rw_cons (op_pv (w0 rfl) rfl rfl (pv_move (v := (.bool (dec (BytesOK xs26)))) rfl rfl) ?_)
    refine rw_cons (op_pv (w0 rfl) rfl rfl (pv_neBs Try.underlying4 rfl rfl rfl) ?_)
    refine rw_cons (op_pv (w0 rfl) rfl rfl (pv_move (v := (.bool false)) rfl rfl) ?_)
    refine rw_cons (op_pv (w1y rfl rfl rfl rfl) rfl rfl (pv_move (v := (.slice A37 (sumsV xs26).length c38)) rfl rfl) ?_)
    refine rw_cons (op_pv (w1y rfl rfl rfl rfl) rfl rfl (pv_move (v := (.slice A50 (sumsV xs26).length c51)) rfl rfl) ?_)
    refine rw_cons (op_call (w1y rfl rfl rfl rfl) rfl rfl (rc_call C27 rfl rfl) (sameInts_same _ _ _ _ _ _ (sumsV xs26) _ (hO39.rs (fun _ => rfl)) (hO52.rs (fun _ => rfl)) (by omega)) ?_)
    rintro _ w63 ⟨rfl, hch64⟩
    have hsz65 := hch64.size
    replace hR0 := hR0.ch0 hch64
    replace hO27 := hO27.ch0 hch64
    replace hO39 := hO39.ch0 hch64
    replace hO52 := hO52.ch0 hch64
    replace hc := hc.step0 hch64
    refine rw_cons (op_pv (w1y rfl rfl rfl rfl) rfl rfl (pv_not rfl rfl) ?_)
    refine rw_cons (op_pv (w0 rfl) rfl rfl (pv_pickF (v := (.bool (!true))) rfl rfl rfl) ?_)
    refine rw_cons (op_pv (w0 rfl) rfl rfl (pv_move (v := (.bool (!true))) rfl rfl) ?_)
    refine rw_cons (op_pv (w1y rfl rfl rfl rfl) rfl rfl (pv_move (v := (.bool (dec (BytesOK xs26)))) rfl rfl) ?_)
    refine rw_cons (op_pv (w1y rfl rfl rfl rfl) rfl rfl (pv_not rfl rfl) ?_)
    refine rw_cons (op_pv (w0 rfl) rfl rfl (pv_pickF (v := (.bool (!(dec (BytesOK xs26))))) rfl rfl rfl) ?_)
    refine rw_nil (hK62 _ _ ?_)
    refine hK60 _ _ ?_
    refine cw_cond rfl (fun h66 => ?_) (fun h66 => ?_)
    · -- then
      replace h66 := not_t h66
      replace h66 := dec_f h66
      refine cw_seq fun K67 hK68 => ?_
      refine cw_region fun K69 hK70 => ?_
      refine rw_cons (op_pv (w0 rfl) rfl rfl (pv_move (v := (.bool (dec (BytesOK xs26)))) rfl rfl) ?_)
      refine rw_cons (op_pv (w0 rfl) rfl rfl (pv_move (v := (.bool (dec (BytesOK xs26)))) rfl rfl) ?_)
      refine rw_cons (op_pv (w0 rfl) rfl rfl (pv_eqBs Try.underlying4 rfl rfl rfl) ?_)
      refine rw_cons (op_pv (w0 rfl) rfl rfl (pv_move (v := (.bool true)) rfl rfl) ?_)
      refine rw_cons (op_pv (w1y rfl rfl rfl rfl) rfl rfl (pv_move (v := (.slice A37 (sumsV xs26).length c38)) rfl rfl) ?_)
      refine rw_cons (op_pv (w1y rfl rfl rfl rfl) rfl rfl (pv_move (v := (.slice A50 (sumsV xs26).length c51)) rfl rfl) ?_)
      refine rw_cons (op_call (w1y rfl rfl rfl rfl) rfl rfl (rc_call C27 rfl rfl) (sameInts_same _ _ _ _ _ _ (sumsV xs26) _ (hO39.rs (fun _ => rfl)) (hO52.rs (fun _ => rfl)) (by omega)) ?_)
      rintro _ w71 ⟨rfl, hch72⟩
      have hsz73 := hch72.size
      replace hR0 := hR0.ch0 hch72
      replace hO27 := hO27.ch0 hch72
      replace hO39 := hO39.ch0 hch72
      replace hO52 := hO52.ch0 hch72
      replace hc := hc.step0 hch72
      refine rw_cons (op_pv (w0 rfl) rfl rfl (pv_pickT (v := (.bool true)) rfl rfl rfl) ?_)
      refine rw_cons (op_pv (w0 rfl) rfl rfl (pv_assign (v := (.bool true)) rfl rfl) ?_)
      refine rw_nil (hK70 _ _ ?_)
      refine hK68 _ _ ?_
      refine cw_ret ?_
      refine fin1 rfl ?_
      exact ⟨rfl, hc⟩
    · -- else
      replace h66 := not_f h66
      replace h66 := dec_t h66
      refine cw_skip ?_
      refine hK58 _ _ ?_
      refine cw_seq fun K74 hK75 => ?_
      refine cw_region fun K76 hK77 => ?_
      refine rw_cons (op_pv (w0 rfl) rfl rfl (pv_move (v := (.slice A37 (sumsV xs26).length c38)) rfl rfl) ?_)
      refine rw_cons (op_pv (w0 rfl) rfl rfl (pv_len Try.underlying22 rfl rfl) ?_)
      refine rw_cons (op_pv (w0 rfl) rfl rfl (pv_move (v := (.slice A24 xs26.length c25)) rfl rfl) ?_)
      refine rw_cons (op_pv (w0 rfl) rfl rfl (pv_len Try.underlying22 rfl rfl) ?_)
      refine rw_cons (op_pv (w0 rfl) rfl rfl (pv_add rfl rfl rfl (by omega) (by omega)) ?_)
      refine rw_cons (op_pv (w0 rfl) rfl rfl (pv_sub rfl rfl rfl (by omega) (by omega)) ?_)
      refine rw_cons (op_pv (w0 rfl) rfl rfl (pv_quo rfl rfl rfl (by omega) (by omega) (by omega)) ?_)
      refine rw_cons (op_pv (w0 rfl) rfl rfl (pv_eql rfl rfl rfl) ?_)
      refine rw_cons (op_pv (w0 rfl) rfl rfl (pv_move (v := (.bool (decide ((((sumsV xs26).length : Int) : Int) = ((((xs26.length : Int) + 4) - 1) / 4))))) rfl rfl) ?_)
      refine rw_split 52 rfl (fun hb78 => ?_) (fun hb78 => ?_)
      · -- yes
        replace hb78 := of_decide_eq_true hb78
        refine rw_cons (op_pv (w1y rfl rfl rfl rfl) rfl rfl (pv_move (v := (.slice A24 xs26.length c25)) rfl rfl) ?_)
        refine rw_cons (op_pv (w1y rfl rfl rfl rfl) rfl rfl (pv_move (v := (.slice A37 (sumsV xs26).length c38)) rfl rfl) ?_)
        refine rw_cons (op_call (w1y rfl rfl rfl rfl) rfl rfl (rc_call C29 rfl rfl) (SumsBad_i _ xs26.length _ xs26 _ (sumsV xs26).length _ (sumsV xs26) _ (hO27.rs (fun _ => rfl)) (by omega) (by omega) (hO39.rs (fun _ => rfl)) (by omega)) ?_)
        rintro _ w79 ⟨A81, c82, rfl, hO83, hch80⟩
        have hsz84 := hch80.size
        replace hR0 := hR0.ch0 hch80
        replace hO27 := hO27.ch0 hch80
        replace hO39 := hO39.ch0 hch80
        replace hO52 := hO52.ch0 hch80
        replace hc := hc.step0 hch80
        have hub85 := hO83.lt
        have hcap86 : (badV xs26 (sumsV xs26)).length ≤ c82 := by obtain ⟨_, _, hv, h1, _⟩ := hO83.form; injection hv with _ _ h3; omega
        have hnt87 := badV_le xs26 (sumsV xs26)
        refine rw_cons (op_pv (w1y rfl rfl rfl rfl) rfl rfl (pv_len Try.underlying22 rfl rfl) ?_)
        refine rw_cons (op_pv (w1y rfl rfl rfl rfl) rfl rfl (pv_eql rfl rfl rfl) ?_)
        refine rw_cons (op_pv (w0 rfl) rfl rfl (pv_pickT (v := (.bool (decide ((((badV xs26 (sumsV xs26)).length : Int) : Int) = 0)))) rfl rfl rfl) ?_)
        refine rw_cons (op_pv (w0 rfl) rfl rfl (pv_assign (v := (.bool (decide ((((badV xs26 (sumsV xs26)).length : Int) : Int) = 0)))) rfl rfl) ?_)
        refine rw_nil (hK77 _ _ ?_)
        refine hK75 _ _ ?_
        refine cw_ret ?_
        refine fin1 rfl ?_
        rcases Classical.em (BytesOK xs26) with hbo | hbo
        · have e1 := sumsV_yes hbo; have e2 := sumsL_len xs26; have e3 : nparts xs26 = (xs26.length + 3) / 4 := rfl
          have e5 : (sumsV xs26).length = (xs26.length + 3) / 4 := by rw [e1, e2, e3]
          have e6 : (badV xs26 (sumsV xs26)).length = 0 := by rw [e1, badV_yes hbo, badL_self]; rfl
          first
            | exact ⟨rfl, hc⟩
            | (exfalso; omega)
            | exact ⟨congrArg Value.bool (decide_eq_true (by omega)), hc⟩
        · first
            | exact absurd ‹BytesOK xs26› hbo
            | exact ⟨rfl, hc⟩
      · -- no
        replace hb78 := of_decide_eq_false hb78
        refine rw_cons (op_pass (w1n1 rfl rfl rfl rfl) rfl rfl ?_)
        refine rw_cons (op_pass (w1n1 rfl rfl rfl rfl) rfl rfl ?_)
        refine rw_cons (op_pass (w1n1 rfl rfl rfl rfl) rfl rfl ?_)
        refine rw_cons (op_pass (w1n1 rfl rfl rfl rfl) rfl rfl ?_)
        refine rw_cons (op_pass (w1n1 rfl rfl rfl rfl) rfl rfl ?_)
        refine rw_cons (op_pv (w0 rfl) rfl rfl (pv_pickF (v := (.bool false)) rfl rfl rfl) ?_)
        refine rw_cons (op_pv (w0 rfl) rfl rfl (pv_assign (v := (.bool false)) rfl rfl) ?_)
        refine rw_nil (hK77 _ _ ?_)
        refine hK75 _ _ ?_
        refine cw_ret ?_
        refine fin1 rfl ?_
        rcases Classical.em (BytesOK xs26) with hbo | hbo
        · have e1 := sumsV_yes hbo; have e2 := sumsL_len xs26; have e3 : nparts xs26 = (xs26.length + 3) / 4 := rfl
          have e5 : (sumsV xs26).length = (xs26.length + 3) / 4 := by rw [e1, e2, e3]
          have e6 : (badV xs26 (sumsV xs26)).length = 0 := by rw [e1, badV_yes hbo, badL_self]; rfl
          first
            | exact ⟨rfl, hc⟩
            | (exfalso; omega)
            | exact ⟨congrArg Value.bool (decide_eq_true (by omega)), hc⟩
        · first
            | exact absurd ‹BytesOK xs26› hbo
            | exact ⟨rfl, hc⟩
end Go.Proofs.Ythgnnpafieifmaa

/-
  The walk of laws.FnFileAtNext, written by program: each line names the law of one operation. Conditions: those of the theorem.
-/
import Derived.Test.YthgnlljpjpklpaaProg
import Derived.Test.YthgnlljpjpklpaaDeep
import Derived.Test.YthgnlljpjpklpaaFlaw
import Derived.Test.YthgnlljpjpklpaaFspecDrawFileAt
import Derived.Test.YthgnlljpjpklpaaFimplFileAt
import Derived.Test.YthgnlljpjpklpaaFspecFileAt
import Derived.KernelRfl
namespace Go.Proofs.Ythgnlljpjpklpaa
open Go Go.RowKit
set_option linter.unusedVariables false
set_option linter.unusedSimpArgs false
namespace FnFileAtNext_okF
theorem C35 : Callable Try.prog 35 := ⟨_, Try.func35, by kernel_rfl, by kernel_rfl⟩
theorem C36 : Callable Try.prog 36 := ⟨_, Try.func36, by kernel_rfl, by kernel_rfl⟩
theorem C37 : Callable Try.prog 37 := ⟨_, Try.func37, by kernel_rfl, by kernel_rfl⟩
end FnFileAtNext_okF
open FnFileAtNext_okF in
set_option maxHeartbeats 4000000 in
theorem FnFileAtNext_ok (A0 : Option Addr) (n0 c0 : Nat) (xs0 : List UInt8) (w : World) (hR0 : RS encU 1 w w.heap.size A0 n0 xs0) (hn0 : n0 ≤ c0) :
    Fn Try.prog 9 [(.slice A0 n0 c0)] w fun v w' => v = .bool true ∧ Ch [] w w' := by
  have hlen0 := hR0.len
  refine fn_of (n := 100) Try.func9 rfl rfl rfl rfl ?_
  have hc : Ch [] w w := Ch.refl _ _
  refine cw_seq fun K1 hK2 => ?_
  refine cw_region fun K3 hK4 => ?_
  refine rw_cons (op_pv (w0 rfl) rfl rfl (pv_assign (v := (.bool false)) rfl rfl) ?_)
  refine rw_nil (hK4 _ _ ?_)
  refine hK2 _ _ ?_
  refine cw_seq fun K5 hK6 => ?_
  refine cw_seq fun K7 hK8 => ?_
  refine cw_region fun K9 hK10 => ?_
  refine rw_cons (op_pv (w0 rfl) rfl rfl (pv_move (v := (.slice A0 n0 c0)) rfl rfl) ?_)
  refine rw_cons (op_pv (w0 rfl) rfl rfl (pv_len Try.underlying36 rfl rfl) ?_)
  refine rw_cons (op_pv (w0 rfl) rfl rfl (pv_gtr rfl rfl rfl) ?_)
  refine rw_nil (hK10 _ _ ?_)
  refine hK8 _ _ ?_
  refine cw_cond rfl (fun h11 => ?_) (fun h11 => ?_)
  · -- then
    replace h11 := of_decide_eq_true h11
    refine cw_seq fun K12 hK13 => ?_
    refine cw_region fun K14 hK15 => ?_
    refine rw_cons (op_pv (w0 rfl) rfl rfl (pv_assign (v := (.bool true)) rfl rfl) ?_)
    refine rw_nil (hK15 _ _ ?_)
    refine hK13 _ _ ?_
    refine cw_ret ?_
    refine fin1 rfl ?_
    exact ⟨rfl, hc⟩
  · -- else
    replace h11 := of_decide_eq_false h11
    refine cw_skip ?_
    refine hK6 _ _ ?_
    refine cw_seq fun K16 hK17 => ?_
    refine cw_region fun K18 hK19 => ?_
    refine rw_cons (op_pv (w0 rfl) rfl rfl (pv_move (v := (.slice A0 n0 c0)) rfl rfl) ?_)
    refine rw_cons (op_call (w0 rfl) rfl rfl (rc_call C35 rfl rfl) (DrawFileAt_ok _ _ _ _ _ (hR0.more (by omega)) (by omega)) ?_)
    rintro _ w20 ⟨A25, c26, hs22, nm23, a24, rfl, hO27, hl29, hD30, hZ31, hsl32, hx33, hch21⟩
    have hsz34 := hch21.size
    replace hR0 := hR0.ch0 hch21
    replace hc := hc.step0 hch21
    have hub28 := hO27.lt
    have hcap35 : hs22.length ≤ c26 := by obtain ⟨_, _, hv, h1, _⟩ := hO27.form; injection hv with _ _ h3; omega
    refine rw_cons (op_pv (w0 rfl) rfl rfl (pv_move (v := (.tuple #[(.slice A25 hs22.length c26), (.string nm23), (.int .i64 a24)])) rfl rfl) ?_)
    refine rw_cons (op_pv (w0 rfl) rfl rfl (pv_ext (v := (.slice A25 hs22.length c26)) rfl rfl rfl) ?_)
    refine rw_cons (op_pv (w0 rfl) rfl rfl (pv_ext (v := (.string nm23)) rfl rfl rfl) ?_)
    refine rw_cons (op_pv (w0 rfl) rfl rfl (pv_ext (v := (.int .i64 a24)) rfl rfl rfl) ?_)
    refine rw_cons (op_pv (w0 rfl) rfl rfl (pv_assign (v := (.slice A25 hs22.length c26)) rfl rfl) ?_)
    refine rw_cons (op_pv (w0 rfl) rfl rfl (pv_assign (v := (.string nm23)) rfl rfl) ?_)
    refine rw_cons (op_pv (w0 rfl) rfl rfl (pv_assign (v := (.int .i64 a24)) rfl rfl) ?_)
    refine rw_nil (hK19 _ _ ?_)
    refine hK17 _ _ ?_
    refine cw_seq fun K36 hK37 => ?_
    refine cw_region fun K38 hK39 => ?_
    refine rw_cons (op_pv (w0 rfl) rfl rfl (pv_move (v := (.slice A25 hs22.length c26)) rfl rfl) ?_)
    refine rw_cons (op_pv (w0 rfl) rfl rfl (pv_move (v := (.string nm23)) rfl rfl) ?_)
    refine rw_cons (op_pv (w0 rfl) rfl rfl (pv_move (v := (.int .i64 a24)) rfl rfl) ?_)
    refine rw_cons (op_call (w0 rfl) rfl rfl (rc_call C36 rfl rfl) (FileAt_i _ hs22.length _ hs22 nm23 a24 _ (hO27.rs (fun _ => rfl)) (hD30.any (by omega)) (by first | assumption | exact SzOK.nil) (by omega) (by omega)) ?_)
    rintro _ w40 ⟨rfl, hch41⟩
    have hsz42 := hch41.size
    replace hR0 := hR0.ch0 hch41
    replace hO27 := hO27.ch0 hch41
    replace hD30 := hD30.ch0 hch41
    replace hc := hc.step0 hch41
    refine rw_cons (op_pv (w0 rfl) rfl rfl (pv_move (v := (.tuple #[(.int .i64 (atN (fvs hs22) nm23 a24)), (.int .i64 (atK (fvs hs22) nm23 a24)), (.bool (dec (AtOK (fvs hs22) nm23 a24)))])) rfl rfl) ?_)
    refine rw_cons (op_pv (w0 rfl) rfl rfl (pv_ext (v := (.int .i64 (atN (fvs hs22) nm23 a24))) rfl rfl rfl) ?_)
    refine rw_cons (op_pv (w0 rfl) rfl rfl (pv_ext (v := (.int .i64 (atK (fvs hs22) nm23 a24))) rfl rfl rfl) ?_)
    refine rw_cons (op_pv (w0 rfl) rfl rfl (pv_ext (v := (.bool (dec (AtOK (fvs hs22) nm23 a24)))) rfl rfl rfl) ?_)
    refine rw_cons (op_pv (w0 rfl) rfl rfl (pv_assign (v := (.int .i64 (atN (fvs hs22) nm23 a24))) rfl rfl) ?_)
    refine rw_cons (op_pv (w0 rfl) rfl rfl (pv_assign (v := (.int .i64 (atK (fvs hs22) nm23 a24))) rfl rfl) ?_)
    refine rw_cons (op_pv (w0 rfl) rfl rfl (pv_assign (v := (.bool (dec (AtOK (fvs hs22) nm23 a24)))) rfl rfl) ?_)
    refine rw_nil (hK39 _ _ ?_)
    refine hK37 _ _ ?_
    refine cw_seq fun K43 hK44 => ?_
    refine cw_region fun K45 hK46 => ?_
    refine rw_cons (op_pv (w0 rfl) rfl rfl (pv_move (v := (.slice A25 hs22.length c26)) rfl rfl) ?_)
    refine rw_cons (op_pv (w0 rfl) rfl rfl (pv_move (v := (.string nm23)) rfl rfl) ?_)
    refine rw_cons (op_pv (w0 rfl) rfl rfl (pv_move (v := (.int .i64 a24)) rfl rfl) ?_)
    refine rw_cons (op_call (w0 rfl) rfl rfl (rc_call C37 rfl rfl) (FileAt_s _ hs22.length _ hs22 nm23 a24 _ (hO27.rs (fun _ => rfl)) (hD30.any (by omega)) (by first | assumption | exact SzOK.nil) (by omega) (by omega) (by omega)) ?_)
    rintro _ w47 ⟨rfl, hch48⟩
    have hsz49 := hch48.size
    replace hR0 := hR0.ch0 hch48
    replace hO27 := hO27.ch0 hch48
    replace hD30 := hD30.ch0 hch48
    replace hc := hc.step0 hch48
    refine rw_cons (op_pv (w0 rfl) rfl rfl (pv_move (v := (.tuple #[(.int .i64 (atN (fvs hs22) nm23 a24)), (.int .i64 (atK (fvs hs22) nm23 a24)), (.bool (dec (AtOK (fvs hs22) nm23 a24)))])) rfl rfl) ?_)
    refine rw_cons (op_pv (w0 rfl) rfl rfl (pv_ext (v := (.int .i64 (atN (fvs hs22) nm23 a24))) rfl rfl rfl) ?_)
    refine rw_cons (op_pv (w0 rfl) rfl rfl (pv_ext (v := (.int .i64 (atK (fvs hs22) nm23 a24))) rfl rfl rfl) ?_)
    refine rw_cons (op_pv (w0 rfl) rfl rfl (pv_ext (v := (.bool (dec (AtOK (fvs hs22) nm23 a24)))) rfl rfl rfl) ?_)
    refine rw_cons (op_pv (w0 rfl) rfl rfl (pv_assign (v := (.int .i64 (atN (fvs hs22) nm23 a24))) rfl rfl) ?_)
    refine rw_cons (op_pv (w0 rfl) rfl rfl (pv_assign (v := (.int .i64 (atK (fvs hs22) nm23 a24))) rfl rfl) ?_)
    refine rw_cons (op_pv (w0 rfl) rfl rfl (pv_assign (v := (.bool (dec (AtOK (fvs hs22) nm23 a24)))) rfl rfl) ?_)
    refine rw_nil (hK46 _ _ ?_)
    refine hK44 _ _ ?_
    refine cw_seq fun K50 hK51 => ?_
    refine cw_seq fun K52 hK53 => ?_
    refine cw_region fun K54 hK55 => ?_
    refine rw_cons (op_pv (w0 rfl) rfl rfl (pv_move (v := (.bool (dec (AtOK (fvs hs22) nm23 a24)))) rfl rfl) ?_)
    refine rw_cons (op_pv (w0 rfl) rfl rfl (pv_move (v := (.bool (dec (AtOK (fvs hs22) nm23 a24)))) rfl rfl) ?_)
    refine rw_cons (op_pv (w0 rfl) rfl rfl (pv_neBs Try.underlying4 rfl rfl rfl) ?_)
    refine rw_cons (op_pv (w0 rfl) rfl rfl (pv_move (v := (.bool false)) rfl rfl) ?_)
    refine rw_cons (op_pv (w1y rfl rfl rfl rfl) rfl rfl (pv_move (v := (.int .i64 (atK (fvs hs22) nm23 a24))) rfl rfl) ?_)
    refine rw_cons (op_pv (w1y rfl rfl rfl rfl) rfl rfl (pv_move (v := (.int .i64 (atK (fvs hs22) nm23 a24))) rfl rfl) ?_)
    refine rw_cons (op_pv (w1y rfl rfl rfl rfl) rfl rfl (pv_nes rfl rfl rfl) ?_)
    refine rw_cons (op_pv (w0 rfl) rfl rfl (pv_pickF (v := (.bool false)) rfl rfl rfl) ?_)
    refine rw_cons (op_pv (w0 rfl) rfl rfl (pv_move (v := (.bool false)) rfl rfl) ?_)
    refine rw_cons (op_pv (w1y rfl rfl rfl rfl) rfl rfl (pv_move (v := (.int .i64 (atN (fvs hs22) nm23 a24))) rfl rfl) ?_)
    refine rw_cons (op_pv (w1y rfl rfl rfl rfl) rfl rfl (pv_move (v := (.int .i64 (atN (fvs hs22) nm23 a24))) rfl rfl) ?_)
    refine rw_cons (op_pv (w1y rfl rfl rfl rfl) rfl rfl (pv_nes rfl rfl rfl) ?_)
    refine rw_cons (op_pv (w0 rfl) rfl rfl (pv_pickF (v := (.bool false)) rfl rfl rfl) ?_)
    refine rw_cons (op_pv (w0 rfl) rfl rfl (pv_move (v := (.bool false)) rfl rfl) ?_)
    refine rw_cons (op_pv (w1y rfl rfl rfl rfl) rfl rfl (pv_move (v := (.bool (dec (AtOK (fvs hs22) nm23 a24)))) rfl rfl) ?_)
    refine rw_cons (op_pv (w1y rfl rfl rfl rfl) rfl rfl (pv_not rfl rfl) ?_)
    refine rw_cons (op_pv (w0 rfl) rfl rfl (pv_pickF (v := (.bool (!(dec (AtOK (fvs hs22) nm23 a24))))) rfl rfl rfl) ?_)
    refine rw_nil (hK55 _ _ ?_)
    refine hK53 _ _ ?_
    refine cw_cond rfl (fun h56 => ?_) (fun h56 => ?_)
    · -- then
      replace h56 := not_t h56
      replace h56 := dec_f h56
      refine cw_seq fun K57 hK58 => ?_
      refine cw_region fun K59 hK60 => ?_
      refine rw_cons (op_pv (w0 rfl) rfl rfl (pv_move (v := (.bool (dec (AtOK (fvs hs22) nm23 a24)))) rfl rfl) ?_)
      refine rw_cons (op_pv (w0 rfl) rfl rfl (pv_move (v := (.bool (dec (AtOK (fvs hs22) nm23 a24)))) rfl rfl) ?_)
      refine rw_cons (op_pv (w0 rfl) rfl rfl (pv_eqBs Try.underlying4 rfl rfl rfl) ?_)
      refine rw_cons (op_pv (w0 rfl) rfl rfl (pv_move (v := (.bool true)) rfl rfl) ?_)
      refine rw_cons (op_pv (w1y rfl rfl rfl rfl) rfl rfl (pv_move (v := (.int .i64 (atK (fvs hs22) nm23 a24))) rfl rfl) ?_)
      refine rw_cons (op_pv (w1y rfl rfl rfl rfl) rfl rfl (pv_move (v := (.int .i64 (atK (fvs hs22) nm23 a24))) rfl rfl) ?_)
      refine rw_cons (op_pv (w1y rfl rfl rfl rfl) rfl rfl (pv_eqs rfl rfl rfl) ?_)
      refine rw_cons (op_pv (w0 rfl) rfl rfl (pv_pickT (v := (.bool true)) rfl rfl rfl) ?_)
      refine rw_cons (op_pv (w0 rfl) rfl rfl (pv_move (v := (.bool true)) rfl rfl) ?_)
      refine rw_cons (op_pv (w1y rfl rfl rfl rfl) rfl rfl (pv_move (v := (.int .i64 (atN (fvs hs22) nm23 a24))) rfl rfl) ?_)
      refine rw_cons (op_pv (w1y rfl rfl rfl rfl) rfl rfl (pv_move (v := (.int .i64 (atN (fvs hs22) nm23 a24))) rfl rfl) ?_)
      refine rw_cons (op_pv (w1y rfl rfl rfl rfl) rfl rfl (pv_eqs rfl rfl rfl) ?_)
      refine rw_cons (op_pv (w0 rfl) rfl rfl (pv_pickT (v := (.bool true)) rfl rfl rfl) ?_)
      refine rw_cons (op_pv (w0 rfl) rfl rfl (pv_assign (v := (.bool true)) rfl rfl) ?_)
      refine rw_nil (hK60 _ _ ?_)
      refine hK58 _ _ ?_
      refine cw_ret ?_
      refine fin1 rfl ?_
      first
        | exact ⟨rfl, hc⟩
        | exact absurd rfl (by assumption)
        | exact ⟨congrArg Value.bool (beq_self_eq_true _), hc⟩
        | exact ⟨congrArg Value.bool (decide_eq_true rfl), hc⟩
    · -- else
      replace h56 := not_f h56
      replace h56 := dec_t h56
      refine cw_skip ?_
      refine hK51 _ _ ?_
      refine cw_seq fun K61 hK62 => ?_
      have hok : AtOK (fvs hs22) nm23 a24 := by assumption
      have hNv := atN_yes hok
      have hKv := atK_yes hok
      have ha0 := hok.2.2.1
      refine cw_region fun K63 hK64 => ?_
      refine rw_cons (op_pv (w0 rfl) rfl rfl (pv_move (v := (.slice A25 hs22.length c26)) rfl rfl) ?_)
      refine rw_cons (op_pv (w0 rfl) rfl rfl (pv_move (v := (.string nm23)) rfl rfl) ?_)
      refine rw_cons (op_pv (w0 rfl) rfl rfl (pv_move (v := (.int .i64 a24)) rfl rfl) ?_)
      refine rw_cons (op_pv (w0 rfl) rfl rfl (pv_add rfl rfl rfl (by omega) (by omega)) ?_)
      refine rw_cons (op_call (w0 rfl) rfl rfl (rc_call C36 rfl rfl) (FileAt_i _ hs22.length _ hs22 nm23 (a24 + 1) _ (hO27.rs (fun _ => rfl)) (hD30.any (by omega)) (by first | assumption | exact SzOK.nil) (by omega) (by omega)) ?_)
      rintro _ w65 ⟨rfl, hch66⟩
      have hsz67 := hch66.size
      replace hR0 := hR0.ch0 hch66
      replace hO27 := hO27.ch0 hch66
      replace hD30 := hD30.ch0 hch66
      replace hc := hc.step0 hch66
      refine rw_cons (op_pv (w0 rfl) rfl rfl (pv_move (v := (.tuple #[(.int .i64 (atN (fvs hs22) nm23 (a24 + 1))), (.int .i64 (atK (fvs hs22) nm23 (a24 + 1))), (.bool (dec (AtOK (fvs hs22) nm23 (a24 + 1))))])) rfl rfl) ?_)
      refine rw_cons (op_pv (w0 rfl) rfl rfl (pv_ext (v := (.int .i64 (atN (fvs hs22) nm23 (a24 + 1)))) rfl rfl rfl) ?_)
      refine rw_cons (op_pv (w0 rfl) rfl rfl (pv_ext (v := (.int .i64 (atK (fvs hs22) nm23 (a24 + 1)))) rfl rfl rfl) ?_)
      refine rw_cons (op_pv (w0 rfl) rfl rfl (pv_ext (v := (.bool (dec (AtOK (fvs hs22) nm23 (a24 + 1))))) rfl rfl rfl) ?_)
      refine rw_cons (op_pv (w0 rfl) rfl rfl (pv_assign (v := (.int .i64 (atN (fvs hs22) nm23 (a24 + 1)))) rfl rfl) ?_)
      refine rw_cons (op_pv (w0 rfl) rfl rfl (pv_assign (v := (.int .i64 (atK (fvs hs22) nm23 (a24 + 1)))) rfl rfl) ?_)
      refine rw_cons (op_pv (w0 rfl) rfl rfl (pv_assign (v := (.bool (dec (AtOK (fvs hs22) nm23 (a24 + 1))))) rfl rfl) ?_)
      refine rw_nil (hK64 _ _ ?_)
      refine hK62 _ _ ?_
      refine cw_seq fun K68 hK69 => ?_
      refine cw_region fun K70 hK71 => ?_
      refine rw_cons (op_pv (w0 rfl) rfl rfl (pv_move (v := (.bool (dec (AtOK (fvs hs22) nm23 (a24 + 1))))) rfl rfl) ?_)
      refine rw_cons (op_pv (w0 rfl) rfl rfl (pv_not rfl rfl) ?_)
      refine rw_cons (op_pv (w0 rfl) rfl rfl (pv_move (v := (.bool (!(dec (AtOK (fvs hs22) nm23 (a24 + 1)))))) rfl rfl) ?_)
      refine rw_split 81 rfl (fun hb72 => ?_) (fun hb72 => ?_)
      · -- yes
        replace hb72 := not_t hb72
        replace hb72 := dec_f hb72
        refine rw_cons (op_pass (w1n2 rfl rfl rfl rfl) rfl rfl ?_)
        refine rw_cons (op_pass (w1n2 rfl rfl rfl rfl) rfl rfl ?_)
        refine rw_cons (op_pass (w1n2 rfl rfl rfl rfl) rfl rfl ?_)
        refine rw_cons (op_pass (w1n2 rfl rfl rfl rfl) rfl rfl ?_)
        refine rw_cons (op_pass (w1u rfl rfl rfl) rfl rfl ?_)
        refine rw_cons (op_pass (w1u rfl rfl rfl) rfl rfl ?_)
        refine rw_cons (op_pass (w1u rfl rfl rfl) rfl rfl ?_)
        refine rw_cons (op_pass (w1u rfl rfl rfl) rfl rfl ?_)
        refine rw_cons (op_pass (w1n2 rfl rfl rfl rfl) rfl rfl ?_)
        refine rw_cons (op_pv (w0 rfl) rfl rfl (pv_pickT (v := (.bool true)) rfl rfl rfl) ?_)
        refine rw_cons (op_pv (w0 rfl) rfl rfl (pv_move (v := (.bool true)) rfl rfl) ?_)
        refine rw_cons (op_pass (w1n2 rfl rfl rfl rfl) rfl rfl ?_)
        refine rw_cons (op_pass (w1n2 rfl rfl rfl rfl) rfl rfl ?_)
        refine rw_cons (op_pass (w1n2 rfl rfl rfl rfl) rfl rfl ?_)
        refine rw_cons (op_pass (w1u rfl rfl rfl) rfl rfl ?_)
        refine rw_cons (op_pass (w1u rfl rfl rfl) rfl rfl ?_)
        refine rw_cons (op_pass (w1n2 rfl rfl rfl rfl) rfl rfl ?_)
        refine rw_cons (op_pv (w0 rfl) rfl rfl (pv_pickT (v := (.bool true)) rfl rfl rfl) ?_)
        refine rw_cons (op_pv (w0 rfl) rfl rfl (pv_assign (v := (.bool true)) rfl rfl) ?_)
        refine rw_nil (hK71 _ _ ?_)
        refine hK69 _ _ ?_
        refine cw_ret ?_
        refine fin1 rfl ?_
        exact ⟨by rcases at_next hok with h9 | ⟨h9, h8⟩ | ⟨h9, h8⟩ <;> first | rfl | contradiction | exact congrArg Value.bool (decide_eq_true (by omega)) | (exfalso; omega), hc⟩
      · -- no
        replace hb72 := not_f hb72
        replace hb72 := dec_t hb72
        refine rw_cons (op_pv (w1y rfl rfl rfl rfl) rfl rfl (pv_move (v := (.int .i64 (atN (fvs hs22) nm23 (a24 + 1)))) rfl rfl) ?_)
        refine rw_cons (op_pv (w1y rfl rfl rfl rfl) rfl rfl (pv_move (v := (.int .i64 (atN (fvs hs22) nm23 a24))) rfl rfl) ?_)
        refine rw_cons (op_pv (w1y rfl rfl rfl rfl) rfl rfl (pv_eql rfl rfl rfl) ?_)
        refine rw_cons (op_pv (w1y rfl rfl rfl rfl) rfl rfl (pv_move (v := (.bool (decide ((atN (fvs hs22) nm23 (a24 + 1) : Int) = (atN (fvs hs22) nm23 a24))))) rfl rfl) ?_)
        refine rw_split 85 rfl (fun hb73 => ?_) (fun hb73 => ?_)
        · -- yes
          replace hb73 := of_decide_eq_true hb73
          refine rw_cons (op_pv (w1y rfl rfl rfl rfl) rfl rfl (pv_move (v := (.int .i64 (atK (fvs hs22) nm23 (a24 + 1)))) rfl rfl) ?_)
          refine rw_cons (op_pv (w1y rfl rfl rfl rfl) rfl rfl (pv_move (v := (.int .i64 (atK (fvs hs22) nm23 a24))) rfl rfl) ?_)
          refine rw_cons (op_pv (w1y rfl rfl rfl rfl) rfl rfl (pv_add rfl rfl rfl (by omega) (by omega)) ?_)
          refine rw_cons (op_pv (w1y rfl rfl rfl rfl) rfl rfl (pv_eql rfl rfl rfl) ?_)
          refine rw_cons (op_pv (w1y rfl rfl rfl rfl) rfl rfl (pv_pickT (v := (.bool (decide ((atK (fvs hs22) nm23 (a24 + 1) : Int) = ((atK (fvs hs22) nm23 a24) + 1))))) rfl rfl rfl) ?_)
          refine rw_cons (op_pv (w0 rfl) rfl rfl (pv_pickF (v := (.bool (decide ((atK (fvs hs22) nm23 (a24 + 1) : Int) = ((atK (fvs hs22) nm23 a24) + 1))))) rfl rfl rfl) ?_)
          refine rw_cons (op_pv (w0 rfl) rfl rfl (pv_move (v := (.bool (decide ((atK (fvs hs22) nm23 (a24 + 1) : Int) = ((atK (fvs hs22) nm23 a24) + 1))))) rfl rfl) ?_)
          refine rw_split 92 rfl (fun hb74 => ?_) (fun hb74 => ?_)
          · -- yes
            replace hb74 := of_decide_eq_true hb74
            refine rw_cons (op_pass (w1n2 rfl rfl rfl rfl) rfl rfl ?_)
            refine rw_cons (op_pass (w1n2 rfl rfl rfl rfl) rfl rfl ?_)
            refine rw_cons (op_pass (w1n2 rfl rfl rfl rfl) rfl rfl ?_)
            refine rw_cons (op_pass (w1u rfl rfl rfl) rfl rfl ?_)
            refine rw_cons (op_pass (w1u rfl rfl rfl) rfl rfl ?_)
            refine rw_cons (op_pass (w1n2 rfl rfl rfl rfl) rfl rfl ?_)
            refine rw_cons (op_pv (w0 rfl) rfl rfl (pv_pickT (v := (.bool true)) rfl rfl rfl) ?_)
            refine rw_cons (op_pv (w0 rfl) rfl rfl (pv_assign (v := (.bool true)) rfl rfl) ?_)
            refine rw_nil (hK71 _ _ ?_)
            refine hK69 _ _ ?_
            refine cw_ret ?_
            refine fin1 rfl ?_
            exact ⟨by rcases at_next hok with h9 | ⟨h9, h8⟩ | ⟨h9, h8⟩ <;> first | rfl | contradiction | exact congrArg Value.bool (decide_eq_true (by omega)) | (exfalso; omega), hc⟩
          · -- no
            replace hb74 := of_decide_eq_false hb74
            refine rw_cons (op_pv (w1y rfl rfl rfl rfl) rfl rfl (pv_move (v := (.int .i64 (atK (fvs hs22) nm23 (a24 + 1)))) rfl rfl) ?_)
            refine rw_cons (op_pv (w1y rfl rfl rfl rfl) rfl rfl (pv_eql rfl rfl rfl) ?_)
            refine rw_cons (op_pv (w1y rfl rfl rfl rfl) rfl rfl (pv_move (v := (.bool (decide ((atK (fvs hs22) nm23 (a24 + 1) : Int) = 0)))) rfl rfl) ?_)
            refine rw_split 95 rfl (fun hb75 => ?_) (fun hb75 => ?_)
            · -- yes
              replace hb75 := of_decide_eq_true hb75
              refine rw_cons (op_pv (w1y rfl rfl rfl rfl) rfl rfl (pv_move (v := (.int .i64 (atK (fvs hs22) nm23 a24))) rfl rfl) ?_)
              refine rw_cons (op_pv (w1y rfl rfl rfl rfl) rfl rfl (pv_eql rfl rfl rfl) ?_)
              refine rw_cons (op_pv (w1y rfl rfl rfl rfl) rfl rfl (pv_pickT (v := (.bool (decide ((atK (fvs hs22) nm23 a24 : Int) = 63)))) rfl rfl rfl) ?_)
              refine rw_cons (op_pv (w0 rfl) rfl rfl (pv_pickF (v := (.bool (decide ((atK (fvs hs22) nm23 a24 : Int) = 63)))) rfl rfl rfl) ?_)
              refine rw_cons (op_pv (w0 rfl) rfl rfl (pv_assign (v := (.bool (decide ((atK (fvs hs22) nm23 a24 : Int) = 63)))) rfl rfl) ?_)
              refine rw_nil (hK71 _ _ ?_)
              refine hK69 _ _ ?_
              refine cw_ret ?_
              refine fin1 rfl ?_
              exact ⟨by rcases at_next hok with h9 | ⟨h9, h8⟩ | ⟨h9, h8⟩ <;> first | rfl | contradiction | exact congrArg Value.bool (decide_eq_true (by omega)) | (exfalso; omega), hc⟩
            · -- no
              replace hb75 := of_decide_eq_false hb75
              refine rw_cons (op_pass (w1n1 rfl rfl rfl rfl) rfl rfl ?_)
              refine rw_cons (op_pass (w1n1 rfl rfl rfl rfl) rfl rfl ?_)
              refine rw_cons (op_pv (w1y rfl rfl rfl rfl) rfl rfl (pv_pickF (v := (.bool false)) rfl rfl rfl) ?_)
              refine rw_cons (op_pv (w0 rfl) rfl rfl (pv_pickF (v := (.bool false)) rfl rfl rfl) ?_)
              refine rw_cons (op_pv (w0 rfl) rfl rfl (pv_assign (v := (.bool false)) rfl rfl) ?_)
              refine rw_nil (hK71 _ _ ?_)
              refine hK69 _ _ ?_
              refine cw_ret ?_
              refine fin1 rfl ?_
              exact ⟨by rcases at_next hok with h9 | ⟨h9, h8⟩ | ⟨h9, h8⟩ <;> first | rfl | contradiction | exact congrArg Value.bool (decide_eq_true (by omega)) | (exfalso; omega), hc⟩
        · -- no
          replace hb73 := of_decide_eq_false hb73
          refine rw_cons (op_pass (w1n1 rfl rfl rfl rfl) rfl rfl ?_)
          refine rw_cons (op_pass (w1n1 rfl rfl rfl rfl) rfl rfl ?_)
          refine rw_cons (op_pass (w1n1 rfl rfl rfl rfl) rfl rfl ?_)
          refine rw_cons (op_pass (w1n1 rfl rfl rfl rfl) rfl rfl ?_)
          refine rw_cons (op_pv (w1y rfl rfl rfl rfl) rfl rfl (pv_pickF (v := (.bool false)) rfl rfl rfl) ?_)
          refine rw_cons (op_pv (w0 rfl) rfl rfl (pv_pickF (v := (.bool false)) rfl rfl rfl) ?_)
          refine rw_cons (op_pv (w0 rfl) rfl rfl (pv_move (v := (.bool false)) rfl rfl) ?_)
          refine rw_cons (op_pv (w1y rfl rfl rfl rfl) rfl rfl (pv_move (v := (.int .i64 (atK (fvs hs22) nm23 (a24 + 1)))) rfl rfl) ?_)
          refine rw_cons (op_pv (w1y rfl rfl rfl rfl) rfl rfl (pv_eql rfl rfl rfl) ?_)
          refine rw_cons (op_pv (w1y rfl rfl rfl rfl) rfl rfl (pv_move (v := (.bool (decide ((atK (fvs hs22) nm23 (a24 + 1) : Int) = 0)))) rfl rfl) ?_)
          refine rw_split 95 rfl (fun hb76 => ?_) (fun hb76 => ?_)
          · -- yes
            replace hb76 := of_decide_eq_true hb76
            refine rw_cons (op_pv (w1y rfl rfl rfl rfl) rfl rfl (pv_move (v := (.int .i64 (atK (fvs hs22) nm23 a24))) rfl rfl) ?_)
            refine rw_cons (op_pv (w1y rfl rfl rfl rfl) rfl rfl (pv_eql rfl rfl rfl) ?_)
            refine rw_cons (op_pv (w1y rfl rfl rfl rfl) rfl rfl (pv_pickT (v := (.bool (decide ((atK (fvs hs22) nm23 a24 : Int) = 63)))) rfl rfl rfl) ?_)
            refine rw_cons (op_pv (w0 rfl) rfl rfl (pv_pickF (v := (.bool (decide ((atK (fvs hs22) nm23 a24 : Int) = 63)))) rfl rfl rfl) ?_)
            refine rw_cons (op_pv (w0 rfl) rfl rfl (pv_assign (v := (.bool (decide ((atK (fvs hs22) nm23 a24 : Int) = 63)))) rfl rfl) ?_)
            refine rw_nil (hK71 _ _ ?_)
            refine hK69 _ _ ?_
            refine cw_ret ?_
            refine fin1 rfl ?_
            exact ⟨by rcases at_next hok with h9 | ⟨h9, h8⟩ | ⟨h9, h8⟩ <;> first | rfl | contradiction | exact congrArg Value.bool (decide_eq_true (by omega)) | (exfalso; omega), hc⟩
          · -- no
            replace hb76 := of_decide_eq_false hb76
            refine rw_cons (op_pass (w1n1 rfl rfl rfl rfl) rfl rfl ?_)
            refine rw_cons (op_pass (w1n1 rfl rfl rfl rfl) rfl rfl ?_)
            refine rw_cons (op_pv (w1y rfl rfl rfl rfl) rfl rfl (pv_pickF (v := (.bool false)) rfl rfl rfl) ?_)
            refine rw_cons (op_pv (w0 rfl) rfl rfl (pv_pickF (v := (.bool false)) rfl rfl rfl) ?_)
            refine rw_cons (op_pv (w0 rfl) rfl rfl (pv_assign (v := (.bool false)) rfl rfl) ?_)
            refine rw_nil (hK71 _ _ ?_)
            refine hK69 _ _ ?_
            refine cw_ret ?_
            refine fin1 rfl ?_
            exact ⟨by rcases at_next hok with h9 | ⟨h9, h8⟩ | ⟨h9, h8⟩ <;> first | rfl | contradiction | exact congrArg Value.bool (decide_eq_true (by omega)) | (exfalso; omega), hc⟩
end Go.Proofs.Ythgnlljpjpklpaa

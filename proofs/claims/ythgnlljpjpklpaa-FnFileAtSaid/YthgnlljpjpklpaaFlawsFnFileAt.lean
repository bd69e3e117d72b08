/-
  The walk of laws.FnFileAt, written by program: each line names the law of one operation. Conditions: those of the theorem.
-/
import Derived.Test.YthgnlljpjpklpaaProg
import Derived.Test.YthgnlljpjpklpaaDeep
import Derived.Test.YthgnlljpjpklpaaFlaw
import Derived.Test.YthgnlljpjpklpaaFspecDrawFileAt
import Derived.Test.YthgnlljpjpklpaaFimplFileAt
import Derived.Test.YthgnlljpjpklpaaFspecFileAt
import Derived.KernelRfl
namespace Go.Proofs.Ythgnlljpjpklpaa
open Go Go.RowKit
set_option linter.unusedVariables false
set_option linter.unusedSimpArgs false
namespace FnFileAt_okF
theorem T3 : TI Try.prog 3 false (.int .i64 0) 1 8 := TI.mk' Try.underlying3 rfl (by kernel_rfl)
theorem T9 : TI Try.prog 9 false (.string { data := #[] }) 1 16 := TI.mk' Try.underlying9 rfl (by kernel_rfl)
theorem T25 : TI Try.prog 25 false (.slice none 0 0) 1 24 := TI.mk' Try.underlying25 rfl (by kernel_rfl)
theorem T48 : TI Try.prog 48 true (.agg #[.string { data := #[] }, .slice none 0 0]) 2 40 := TI.mk' Try.underlying48 rfl (by kernel_rfl)
theorem F48_0 : FldOK Try.prog 48 0 0 := ⟨_, _, 0, Try.underlying48, rfl, rfl, by kernel_rfl⟩
theorem F48_1 : FldOK Try.prog 48 1 1 := ⟨_, _, 0, Try.underlying48, rfl, rfl, by kernel_rfl⟩
theorem C35 : Callable Try.prog 35 := ⟨_, Try.func35, by kernel_rfl, by kernel_rfl⟩
theorem C36 : Callable Try.prog 36 := ⟨_, Try.func36, by kernel_rfl, by kernel_rfl⟩
theorem C37 : Callable Try.prog 37 := ⟨_, Try.func37, by kernel_rfl, by kernel_rfl⟩
end FnFileAt_okF
open FnFileAt_okF in
set_option maxHeartbeats 4000000 in
theorem FnFileAt_ok (A0 : Option Addr) (n0 c0 : Nat) (xs0 : List UInt8) (w : World) (hR0 : RS encU 1 w w.heap.size A0 n0 xs0) (hn0 : n0 ≤ c0) :
    Fn Try.prog 8 [(.slice A0 n0 c0)] w fun v w' => v = .bool true ∧ Ch [] w w' := by
  have hlen0 := hR0.len
  refine fn_of (n := 122) Try.func8 rfl rfl rfl rfl ?_
  have hc : Ch [] w w := Ch.refl _ _
  refine cw_seq fun K1 hK2 => ?_
  refine cw_region fun K3 hK4 => ?_
  refine rw_cons (op_pv (w0 rfl) rfl rfl (pv_assign (v := (.bool false)) rfl rfl) ?_)
  refine rw_nil (hK4 _ _ ?_)
  refine hK2 _ _ ?_
  refine cw_seq fun K5 hK6 => ?_
  refine cw_seq fun K7 hK8 => ?_
  refine cw_region fun K9 hK10 => ?_
  refine rw_cons (op_pv (w0 rfl) rfl rfl (pv_move (v := (.slice A0 n0 c0)) rfl rfl) ?_)
  refine rw_cons (op_pv (w0 rfl) rfl rfl (pv_len Try.underlying36 rfl rfl) ?_)
  refine rw_cons (op_pv (w0 rfl) rfl rfl (pv_gtr rfl rfl rfl) ?_)
  refine rw_nil (hK10 _ _ ?_)
  refine hK8 _ _ ?_
  refine cw_cond rfl (fun h11 => ?_) (fun h11 => ?_)
  · -- then
    replace h11 := of_decide_eq_true h11
    refine cw_seq fun K12 hK13 => ?_
    refine cw_region fun K14 hK15 => ?_
    refine rw_cons (op_pv (w0 rfl) rfl rfl (pv_assign (v := (.bool true)) rfl rfl) ?_)
    refine rw_nil (hK15 _ _ ?_)
    refine hK13 _ _ ?_
    refine cw_ret ?_
    refine fin1 rfl ?_
    exact ⟨rfl, hc⟩
  · -- else
    replace h11 := of_decide_eq_false h11
    refine cw_skip ?_
    refine hK6 _ _ ?_
    refine cw_seq fun K16 hK17 => ?_
    refine cw_region fun K18 hK19 => ?_
    refine rw_cons (op_pv (w0 rfl) rfl rfl (pv_move (v := (.slice A0 n0 c0)) rfl rfl) ?_)
    refine rw_cons (op_call (w0 rfl) rfl rfl (rc_call C35 rfl rfl) (DrawFileAt_ok _ _ _ _ _ (hR0.more (by omega)) (by omega)) ?_)
    rintro _ w20 ⟨A25, c26, hs22, nm23, a24, rfl, hO27, hl29, hD30, hZ31, hsl32, hx33, hch21⟩
    have hsz34 := hch21.size
    replace hR0 := hR0.ch0 hch21
    replace hc := hc.step0 hch21
    have hub28 := hO27.lt
    have hcap35 : hs22.length ≤ c26 := by obtain ⟨_, _, hv, h1, _⟩ := hO27.form; injection hv with _ _ h3; omega
    refine rw_cons (op_pv (w0 rfl) rfl rfl (pv_move (v := (.tuple #[(.slice A25 hs22.length c26), (.string nm23), (.int .i64 a24)])) rfl rfl) ?_)
    refine rw_cons (op_pv (w0 rfl) rfl rfl (pv_ext (v := (.slice A25 hs22.length c26)) rfl rfl rfl) ?_)
    refine rw_cons (op_pv (w0 rfl) rfl rfl (pv_ext (v := (.string nm23)) rfl rfl rfl) ?_)
    refine rw_cons (op_pv (w0 rfl) rfl rfl (pv_ext (v := (.int .i64 a24)) rfl rfl rfl) ?_)
    refine rw_cons (op_pv (w0 rfl) rfl rfl (pv_assign (v := (.slice A25 hs22.length c26)) rfl rfl) ?_)
    refine rw_cons (op_pv (w0 rfl) rfl rfl (pv_assign (v := (.string nm23)) rfl rfl) ?_)
    refine rw_cons (op_pv (w0 rfl) rfl rfl (pv_assign (v := (.int .i64 a24)) rfl rfl) ?_)
    refine rw_nil (hK19 _ _ ?_)
    refine hK17 _ _ ?_
    refine cw_seq fun K36 hK37 => ?_
    refine cw_region fun K38 hK39 => ?_
    refine rw_cons (op_pv (w0 rfl) rfl rfl (pv_move (v := (.slice A25 hs22.length c26)) rfl rfl) ?_)
    refine rw_cons (op_pv (w0 rfl) rfl rfl (pv_move (v := (.string nm23)) rfl rfl) ?_)
    refine rw_cons (op_pv (w0 rfl) rfl rfl (pv_move (v := (.int .i64 a24)) rfl rfl) ?_)
    refine rw_cons (op_call (w0 rfl) rfl rfl (rc_call C36 rfl rfl) (FileAt_i _ hs22.length _ hs22 nm23 a24 _ (hO27.rs (fun _ => rfl)) (hD30.any (by omega)) (by first | assumption | exact SzOK.nil) (by omega) (by omega)) ?_)
    rintro _ w40 ⟨rfl, hch41⟩
    have hsz42 := hch41.size
    replace hR0 := hR0.ch0 hch41
    replace hO27 := hO27.ch0 hch41
    replace hD30 := hD30.ch0 hch41
    replace hc := hc.step0 hch41
    refine rw_cons (op_pv (w0 rfl) rfl rfl (pv_move (v := (.tuple #[(.int .i64 (atN (fvs hs22) nm23 a24)), (.int .i64 (atK (fvs hs22) nm23 a24)), (.bool (dec (AtOK (fvs hs22) nm23 a24)))])) rfl rfl) ?_)
    refine rw_cons (op_pv (w0 rfl) rfl rfl (pv_ext (v := (.int .i64 (atN (fvs hs22) nm23 a24))) rfl rfl rfl) ?_)
    refine rw_cons (op_pv (w0 rfl) rfl rfl (pv_ext (v := (.int .i64 (atK (fvs hs22) nm23 a24))) rfl rfl rfl) ?_)
    refine rw_cons (op_pv (w0 rfl) rfl rfl (pv_ext (v := (.bool (dec (AtOK (fvs hs22) nm23 a24)))) rfl rfl rfl) ?_)
    refine rw_cons (op_pv (w0 rfl) rfl rfl (pv_assign (v := (.int .i64 (atN (fvs hs22) nm23 a24))) rfl rfl) ?_)
    refine rw_cons (op_pv (w0 rfl) rfl rfl (pv_assign (v := (.int .i64 (atK (fvs hs22) nm23 a24))) rfl rfl) ?_)
    refine rw_cons (op_pv (w0 rfl) rfl rfl (pv_assign (v := (.bool (dec (AtOK (fvs hs22) nm23 a24)))) rfl rfl) ?_)
    refine rw_nil (hK39 _ _ ?_)
    refine hK37 _ _ ?_
    refine cw_seq fun K43 hK44 => ?_
    refine cw_region fun K45 hK46 => ?_
    refine rw_cons (op_pv (w0 rfl) rfl rfl (pv_move (v := (.slice A25 hs22.length c26)) rfl rfl) ?_)
    refine rw_cons (op_pv (w0 rfl) rfl rfl (pv_move (v := (.string nm23)) rfl rfl) ?_)
    refine rw_cons (op_pv (w0 rfl) rfl rfl (pv_move (v := (.int .i64 a24)) rfl rfl) ?_)
    refine rw_cons (op_call (w0 rfl) rfl rfl (rc_call C37 rfl rfl) (FileAt_s _ hs22.length _ hs22 nm23 a24 _ (hO27.rs (fun _ => rfl)) (hD30.any (by omega)) (by first | assumption | exact SzOK.nil) (by omega) (by omega) (by omega)) ?_)
    rintro _ w47 ⟨rfl, hch48⟩
    have hsz49 := hch48.size
    replace hR0 := hR0.ch0 hch48
    replace hO27 := hO27.ch0 hch48
    replace hD30 := hD30.ch0 hch48
    replace hc := hc.step0 hch48
    refine rw_cons (op_pv (w0 rfl) rfl rfl (pv_move (v := (.tuple #[(.int .i64 (atN (fvs hs22) nm23 a24)), (.int .i64 (atK (fvs hs22) nm23 a24)), (.bool (dec (AtOK (fvs hs22) nm23 a24)))])) rfl rfl) ?_)
    refine rw_cons (op_pv (w0 rfl) rfl rfl (pv_ext (v := (.int .i64 (atN (fvs hs22) nm23 a24))) rfl rfl rfl) ?_)
    refine rw_cons (op_pv (w0 rfl) rfl rfl (pv_ext (v := (.int .i64 (atK (fvs hs22) nm23 a24))) rfl rfl rfl) ?_)
    refine rw_cons (op_pv (w0 rfl) rfl rfl (pv_ext (v := (.bool (dec (AtOK (fvs hs22) nm23 a24)))) rfl rfl rfl) ?_)
    refine rw_cons (op_pv (w0 rfl) rfl rfl (pv_assign (v := (.int .i64 (atN (fvs hs22) nm23 a24))) rfl rfl) ?_)
    refine rw_cons (op_pv (w0 rfl) rfl rfl (pv_assign (v := (.int .i64 (atK (fvs hs22) nm23 a24))) rfl rfl) ?_)
    refine rw_cons (op_pv (w0 rfl) rfl rfl (pv_assign (v := (.bool (dec (AtOK (fvs hs22) nm23 a24)))) rfl rfl) ?_)
    refine rw_nil (hK46 _ _ ?_)
    refine hK44 _ _ ?_
    refine cw_seq fun K50 hK51 => ?_
    refine cw_seq fun K52 hK53 => ?_
    refine cw_region fun K54 hK55 => ?_
    refine rw_cons (op_pv (w0 rfl) rfl rfl (pv_move (v := (.bool (dec (AtOK (fvs hs22) nm23 a24)))) rfl rfl) ?_)
    refine rw_cons (op_pv (w0 rfl) rfl rfl (pv_move (v := (.bool (dec (AtOK (fvs hs22) nm23 a24)))) rfl rfl) ?_)
    refine rw_cons (op_pv (w0 rfl) rfl rfl (pv_neBs Try.underlying4 rfl rfl rfl) ?_)
    refine rw_cons (op_pv (w0 rfl) rfl rfl (pv_move (v := (.bool false)) rfl rfl) ?_)
    refine rw_cons (op_pv (w1y rfl rfl rfl rfl) rfl rfl (pv_move (v := (.int .i64 (atK (fvs hs22) nm23 a24))) rfl rfl) ?_)
    refine rw_cons (op_pv (w1y rfl rfl rfl rfl) rfl rfl (pv_move (v := (.int .i64 (atK (fvs hs22) nm23 a24))) rfl rfl) ?_)
    refine rw_cons (op_pv (w1y rfl rfl rfl rfl) rfl rfl (pv_nes rfl rfl rfl) ?_)
    refine rw_cons (op_pv (w0 rfl) rfl rfl (pv_pickF (v := (.bool false)) rfl rfl rfl) ?_)
    refine rw_cons (op_pv (w0 rfl) rfl rfl (pv_move (v := (.bool false)) rfl rfl) ?_)
    refine rw_cons (op_pv (w1y rfl rfl rfl rfl) rfl rfl (pv_move (v := (.int .i64 (atN (fvs hs22) nm23 a24))) rfl rfl) ?_)
    refine rw_cons (op_pv (w1y rfl rfl rfl rfl) rfl rfl (pv_move (v := (.int .i64 (atN (fvs hs22) nm23 a24))) rfl rfl) ?_)
    refine rw_cons (op_pv (w1y rfl rfl rfl rfl) rfl rfl (pv_nes rfl rfl rfl) ?_)
    refine rw_cons (op_pv (w0 rfl) rfl rfl (pv_pickF (v := (.bool false)) rfl rfl rfl) ?_)
    refine rw_cons (op_pv (w0 rfl) rfl rfl (pv_move (v := (.bool false)) rfl rfl) ?_)
    refine rw_cons (op_pv (w1y rfl rfl rfl rfl) rfl rfl (pv_move (v := (.bool (dec (AtOK (fvs hs22) nm23 a24)))) rfl rfl) ?_)
    refine rw_cons (op_pv (w1y rfl rfl rfl rfl) rfl rfl (pv_not rfl rfl) ?_)
    refine rw_cons (op_pv (w0 rfl) rfl rfl (pv_pickF (v := (.bool (!(dec (AtOK (fvs hs22) nm23 a24))))) rfl rfl rfl) ?_)
    refine rw_nil (hK55 _ _ ?_)
    refine hK53 _ _ ?_
    refine cw_cond rfl (fun h56 => ?_) (fun h56 => ?_)
    · -- then
      replace h56 := not_t h56
      replace h56 := dec_f h56
      refine cw_seq fun K57 hK58 => ?_
      refine cw_region fun K59 hK60 => ?_
      refine rw_cons (op_pv (w0 rfl) rfl rfl (pv_move (v := (.bool (dec (AtOK (fvs hs22) nm23 a24)))) rfl rfl) ?_)
      refine rw_cons (op_pv (w0 rfl) rfl rfl (pv_move (v := (.bool (dec (AtOK (fvs hs22) nm23 a24)))) rfl rfl) ?_)
      refine rw_cons (op_pv (w0 rfl) rfl rfl (pv_eqBs Try.underlying4 rfl rfl rfl) ?_)
      refine rw_cons (op_pv (w0 rfl) rfl rfl (pv_move (v := (.bool true)) rfl rfl) ?_)
      refine rw_cons (op_pv (w1y rfl rfl rfl rfl) rfl rfl (pv_move (v := (.int .i64 (atK (fvs hs22) nm23 a24))) rfl rfl) ?_)
      refine rw_cons (op_pv (w1y rfl rfl rfl rfl) rfl rfl (pv_move (v := (.int .i64 (atK (fvs hs22) nm23 a24))) rfl rfl) ?_)
      refine rw_cons (op_pv (w1y rfl rfl rfl rfl) rfl rfl (pv_eqs rfl rfl rfl) ?_)
      refine rw_cons (op_pv (w0 rfl) rfl rfl (pv_pickT (v := (.bool true)) rfl rfl rfl) ?_)
      refine rw_cons (op_pv (w0 rfl) rfl rfl (pv_move (v := (.bool true)) rfl rfl) ?_)
      refine rw_cons (op_pv (w1y rfl rfl rfl rfl) rfl rfl (pv_move (v := (.int .i64 (atN (fvs hs22) nm23 a24))) rfl rfl) ?_)
      refine rw_cons (op_pv (w1y rfl rfl rfl rfl) rfl rfl (pv_move (v := (.int .i64 (atN (fvs hs22) nm23 a24))) rfl rfl) ?_)
      refine rw_cons (op_pv (w1y rfl rfl rfl rfl) rfl rfl (pv_eqs rfl rfl rfl) ?_)
      refine rw_cons (op_pv (w0 rfl) rfl rfl (pv_pickT (v := (.bool true)) rfl rfl rfl) ?_)
      refine rw_cons (op_pv (w0 rfl) rfl rfl (pv_assign (v := (.bool true)) rfl rfl) ?_)
      refine rw_nil (hK60 _ _ ?_)
      refine hK58 _ _ ?_
      refine cw_ret ?_
      refine fin1 rfl ?_
      first
        | exact ⟨rfl, hc⟩
        | exact absurd rfl (by assumption)
        | exact ⟨congrArg Value.bool (beq_self_eq_true _), hc⟩
        | exact ⟨congrArg Value.bool (decide_eq_true rfl), hc⟩
    · -- else
      replace h56 := not_f h56
      replace h56 := dec_t h56
      refine cw_skip ?_
      refine hK51 _ _ ?_
      refine cw_seq fun K61 hK62 => ?_
      refine cw_seq fun K63 hK64 => ?_
      have hok : AtOK (fvs hs22) nm23 a24 := by assumption
      have hNv := atN_yes hok
      have hKv := atK_yes hok
      have ha0 := hok.2.2.1
      refine cw_region fun K65 hK66 => ?_
      refine rw_cons (op_pv (w0 rfl) rfl rfl (pv_assign (v := (.int .i64 0)) rfl rfl) ?_)
      refine rw_nil (hK66 _ _ ?_)
      refine hK64 _ _ ?_
      refine cw_block ?_
      refine cw_loop (σ := Nat) (fun k => [(12, (.int .i64 (k : Int))), (3, (.slice A25 hs22.length c26)), (4, (.string nm23)), (5, (.int .i64 a24)), (6, (.int .i64 (atN (fvs hs22) nm23 a24))), (7, (.int .i64 (atK (fvs hs22) nm23 a24)))]) (fun k W => (k ≤ hs22.length ∧ ∀ q, q < k → (el hs22 q).nm ≠ nm23) ∧ RS encU 1 W w.heap.size A0 n0 xs0 ∧ Own encF 2 W w.heap.size 48 (.slice A25 hs22.length c26) hs22 ∧ DX w.heap.size w20.heap.size ([]) W hs22 ∧ Ch [] w W ∧ w20.heap.size ≤ W.heap.size) (fun k => hs22.length - k) 0 ?_ ?_ ?_
      · exact ⟨rfl, rfl, rfl, rfl, rfl, rfl, trivial⟩
      · refine ⟨⟨Nat.zero_le _, fun q hq => by omega⟩, hR0, hO27, hD30, hc, (by omega)⟩
      · rintro k J72 w67 ⟨⟨hk, hye⟩, hR0, hO27, hD30, hc, hmono68⟩ K69 hK70
        have hsz74 := hc.size
        have hub75 := hO27.lt
        refine cw_seq fun K76 hK77 => ?_
        refine cw_seq fun K78 hK79 => ?_
        refine cw_region fun K80 hK81 => ?_
        refine rw_cons (op_pv (w0 rfl) rfl rfl (pv_move (v := (.int .i64 (k : Int))) rfl rfl) ?_)
        refine rw_cons (op_pv (w0 rfl) rfl rfl (pv_move (v := (.slice A25 hs22.length c26)) rfl rfl) ?_)
        refine rw_cons (op_pv (w0 rfl) rfl rfl (pv_len Try.underlying24 rfl rfl) ?_)
        refine rw_cons (op_pv (w0 rfl) rfl rfl (pv_lss rfl rfl rfl) ?_)
        refine rw_nil (hK81 _ _ ?_)
        refine hK79 _ _ ?_
        refine cw_cond rfl (fun h82 => ?_) (fun h82 => ?_)
        · -- then
          replace h82 := of_decide_eq_true h82
          refine cw_skip ?_
          refine hK77 _ _ ?_
          refine cw_seq fun K83 hK84 => ?_
          refine cw_block ?_
          refine cw_seq fun K85 hK86 => ?_
          refine cw_region fun K87 hK88 => ?_
          refine rw_cons (op_pv (w0 rfl) rfl rfl (pv_move (v := (.slice A25 hs22.length c26)) rfl rfl) ?_)
          refine rw_cons (op_pv (w0 rfl) rfl rfl (pv_move (v := (.int .i64 (k : Int))) rfl rfl) ?_)
          refine rw_cons (op_pv (w0 rfl) rfl rfl (pv_idx Try.underlying24 T48 rfl rfl rfl ((hO27.rs (fun _ => rfl)).some (k := k) (by omega)) (by omega) (by omega)) ?_)
          refine rw_cons (op_pv (w0 rfl) rfl rfl (pv_fld F48_0 rfl rfl) ?_)
          have hR89 : RS encI 1 w67 w20.heap.size (el hs22 k).A (el hs22 k).n (el hs22 k).ps := hD30.rs (k := k) (by omega)
          have hln90 := hR89.len
          refine rw_cons (op_lv (w0 rfl) rfl rfl (lv_load T9 rfl rfl ((hO27.rs (fun _ => rfl)).cellE (k := k) (j := 0) (by omega) rfl)) ?_)
          refine rw_cons (op_pv (w0 rfl) rfl rfl (pv_move (v := (.string nm23)) rfl rfl) ?_)
          refine rw_cons (op_pv (w0 rfl) rfl rfl (pv_eqS rfl rfl rfl) ?_)
          refine rw_nil (hK88 _ _ ?_)
          refine hK86 _ _ ?_
          refine cw_cond rfl (fun h91 => ?_) (fun h91 => ?_)
          · -- then
            replace h91 := of_decide_eq_true h91
            refine cw_seq fun K92 hK93 => ?_
            obtain ⟨hat1, hat2, hat3⟩ := at_in hok (i := k) (by omega) (by assumption)
            refine cw_region fun K94 hK95 => ?_
            refine rw_cons (op_pv (w0 rfl) rfl rfl (pv_move (v := (.int .i64 a24)) rfl rfl) ?_)
            refine rw_cons (op_pv (w0 rfl) rfl rfl (pv_move (v := (.int .i64 (atK (fvs hs22) nm23 a24))) rfl rfl) ?_)
            refine rw_cons (op_pv (w0 rfl) rfl rfl (pv_sub rfl rfl rfl (by omega) (by omega)) ?_)
            refine rw_cons (op_pv (w0 rfl) rfl rfl (pv_quo rfl rfl rfl (by omega) (by omega) (by omega)) ?_)
            obtain ⟨d96, hd97⟩ : ∃ d : Nat, (a24 - (atK (fvs hs22) nm23 a24)) / 64 = (d : Int) := ⟨((a24 - (atK (fvs hs22) nm23 a24)) / 64).toNat, by omega⟩
            rw [hd97]
            refine rw_cons (op_pv (w0 rfl) rfl rfl (pv_assign (v := (.int .i64 (d96 : Int))) rfl rfl) ?_)
            refine rw_nil (hK95 _ _ ?_)
            refine hK93 _ _ ?_
            refine cw_seq fun K98 hK99 => ?_
            rw [show (a24 / 64).toNat = d96 by omega] at hat3
            refine cw_region fun K100 hK101 => ?_
            refine rw_cons (op_pv (w0 rfl) rfl rfl (pv_move (v := (.int .i64 (atK (fvs hs22) nm23 a24))) rfl rfl) ?_)
            refine rw_cons (op_pv (w0 rfl) rfl rfl (pv_geq rfl rfl rfl) ?_)
            refine rw_cons (op_pv (w0 rfl) rfl rfl (pv_move (v := (.bool (decide (0 ≤ (atK (fvs hs22) nm23 a24))))) rfl rfl) ?_)
            refine rw_split 88 rfl (fun hb102 => ?_) (fun hb102 => ?_)
            · -- yes
              replace hb102 := of_decide_eq_true hb102
              refine rw_cons (op_pv (w1y rfl rfl rfl rfl) rfl rfl (pv_move (v := (.int .i64 (atK (fvs hs22) nm23 a24))) rfl rfl) ?_)
              refine rw_cons (op_pv (w1y rfl rfl rfl rfl) rfl rfl (pv_lss rfl rfl rfl) ?_)
              refine rw_cons (op_pv (w0 rfl) rfl rfl (pv_pickT (v := (.bool (decide ((atK (fvs hs22) nm23 a24) < 64)))) rfl rfl rfl) ?_)
              refine rw_cons (op_pv (w0 rfl) rfl rfl (pv_move (v := (.bool (decide ((atK (fvs hs22) nm23 a24) < 64)))) rfl rfl) ?_)
              refine rw_split 92 rfl (fun hb103 => ?_) (fun hb103 => ?_)
              · -- yes
                replace hb103 := of_decide_eq_true hb103
                refine rw_cons (op_pv (w1y rfl rfl rfl rfl) rfl rfl (pv_move (v := (.int .i64 (d96 : Int))) rfl rfl) ?_)
                refine rw_cons (op_pv (w1y rfl rfl rfl rfl) rfl rfl (pv_mul rfl rfl rfl (by omega) (by omega)) ?_)
                refine rw_cons (op_pv (w1y rfl rfl rfl rfl) rfl rfl (pv_move (v := (.int .i64 (atK (fvs hs22) nm23 a24))) rfl rfl) ?_)
                refine rw_cons (op_pv (w1y rfl rfl rfl rfl) rfl rfl (pv_add rfl rfl rfl (by omega) (by omega)) ?_)
                refine rw_cons (op_pv (w1y rfl rfl rfl rfl) rfl rfl (pv_move (v := (.int .i64 a24)) rfl rfl) ?_)
                refine rw_cons (op_pv (w1y rfl rfl rfl rfl) rfl rfl (pv_eql rfl rfl rfl) ?_)
                refine rw_cons (op_pv (w0 rfl) rfl rfl (pv_pickT (v := (.bool (decide (((64 * (d96 : Int)) + (atK (fvs hs22) nm23 a24) : Int) = a24)))) rfl rfl rfl) ?_)
                refine rw_cons (op_pv (w0 rfl) rfl rfl (pv_move (v := (.bool (decide (((64 * (d96 : Int)) + (atK (fvs hs22) nm23 a24) : Int) = a24)))) rfl rfl) ?_)
                refine rw_split 100 rfl (fun hb104 => ?_) (fun hb104 => ?_)
                · -- yes
                  replace hb104 := of_decide_eq_true hb104
                  refine rw_cons (op_pv (w1y rfl rfl rfl rfl) rfl rfl (pv_move (v := (.int .i64 (d96 : Int))) rfl rfl) ?_)
                  refine rw_cons (op_pv (w1y rfl rfl rfl rfl) rfl rfl (pv_move (v := (.slice A25 hs22.length c26)) rfl rfl) ?_)
                  refine rw_cons (op_pv (w1y rfl rfl rfl rfl) rfl rfl (pv_move (v := (.int .i64 (k : Int))) rfl rfl) ?_)
                  refine rw_cons (op_pv (w1y rfl rfl rfl rfl) rfl rfl (pv_idx Try.underlying24 T48 rfl rfl rfl ((hO27.rs (fun _ => rfl)).some (k := k) (by omega)) (by omega) (by omega)) ?_)
                  refine rw_cons (op_pv (w1y rfl rfl rfl rfl) rfl rfl (pv_fld F48_1 rfl rfl) ?_)
                  have hR105 : RS encI 1 w67 w20.heap.size (el hs22 k).A (el hs22 k).n (el hs22 k).ps := hD30.rs (k := k) (by omega)
                  have hln106 := hR105.len
                  refine rw_cons (op_lv (w1y rfl rfl rfl rfl) rfl rfl (lv_load T25 rfl rfl ((hO27.rs (fun _ => rfl)).cellE (k := k) (j := 1) (by omega) rfl)) ?_)
                  refine rw_cons (op_pv (w1y rfl rfl rfl rfl) rfl rfl (pv_len Try.underlying25 rfl rfl) ?_)
                  refine rw_cons (op_pv (w1y rfl rfl rfl rfl) rfl rfl (pv_lss rfl rfl rfl) ?_)
                  refine rw_cons (op_pv (w0 rfl) rfl rfl (pv_pickT (v := (.bool (decide ((d96 : Int) < ((el hs22 k).n : Int))))) rfl rfl rfl) ?_)
                  refine rw_cons (op_pv (w0 rfl) rfl rfl (pv_move (v := (.bool (decide ((d96 : Int) < ((el hs22 k).n : Int))))) rfl rfl) ?_)
                  refine rw_split 110 rfl (fun hb107 => ?_) (fun hb107 => ?_)
                  · -- yes
                    replace hb107 := of_decide_eq_true hb107
                    refine rw_cons (op_pv (w1y rfl rfl rfl rfl) rfl rfl (pv_move (v := (.slice A25 hs22.length c26)) rfl rfl) ?_)
                    refine rw_cons (op_pv (w1y rfl rfl rfl rfl) rfl rfl (pv_move (v := (.int .i64 (k : Int))) rfl rfl) ?_)
                    refine rw_cons (op_pv (w1y rfl rfl rfl rfl) rfl rfl (pv_idx Try.underlying24 T48 rfl rfl rfl ((hO27.rs (fun _ => rfl)).some (k := k) (by omega)) (by omega) (by omega)) ?_)
                    refine rw_cons (op_pv (w1y rfl rfl rfl rfl) rfl rfl (pv_fld F48_1 rfl rfl) ?_)
                    have hR108 : RS encI 1 w67 w20.heap.size (el hs22 k).A (el hs22 k).n (el hs22 k).ps := hD30.rs (k := k) (by omega)
                    have hln109 := hR108.len
                    refine rw_cons (op_lv (w1y rfl rfl rfl rfl) rfl rfl (lv_load T25 rfl rfl ((hO27.rs (fun _ => rfl)).cellE (k := k) (j := 1) (by omega) rfl)) ?_)
                    refine rw_cons (op_pv (w1y rfl rfl rfl rfl) rfl rfl (pv_move (v := (.int .i64 (d96 : Int))) rfl rfl) ?_)
                    refine rw_cons (op_pv (w1y rfl rfl rfl rfl) rfl rfl (pv_idx Try.underlying25 T3 rfl rfl rfl (hR108.some (k := d96) (by omega)) (by omega) (by omega)) ?_)
                    refine rw_cons (op_lv (w1y rfl rfl rfl rfl) rfl rfl (lv_load T3 rfl rfl (hR108.cell0 (k := d96) (by omega) rfl)) ?_)
                    refine rw_cons (op_pv (w1y rfl rfl rfl rfl) rfl rfl (pv_move (v := (.int .i64 (atN (fvs hs22) nm23 a24))) rfl rfl) ?_)
                    refine rw_cons (op_pv (w1y rfl rfl rfl rfl) rfl rfl (pv_eql rfl rfl rfl) ?_)
                    refine rw_cons (op_pv (w0 rfl) rfl rfl (pv_pickT (v := (.bool (decide (((el (el hs22 k).ps d96) : Int) = (atN (fvs hs22) nm23 a24))))) rfl rfl rfl) ?_)
                    refine rw_cons (op_pv (w0 rfl) rfl rfl (pv_assign (v := (.bool (decide (((el (el hs22 k).ps d96) : Int) = (atN (fvs hs22) nm23 a24))))) rfl rfl) ?_)
                    refine rw_nil (hK101 _ _ ?_)
                    refine hK99 _ _ ?_
                    refine cw_ret ?_
                    refine fin1 rfl ?_
                    exact ⟨by first | rfl | exact congrArg Value.bool (decide_eq_true (by omega)) | (exfalso; omega), hc⟩
                  · -- no
                    replace hb107 := of_decide_eq_false hb107
                    refine rw_cons (op_pass (w1n1 rfl rfl rfl rfl) rfl rfl ?_)
                    refine rw_cons (op_pass (w1n1 rfl rfl rfl rfl) rfl rfl ?_)
                    refine rw_cons (op_pass (w1n1 rfl rfl rfl rfl) rfl rfl ?_)
                    refine rw_cons (op_pass (w1n1 rfl rfl rfl rfl) rfl rfl ?_)
                    refine rw_cons (op_pass (w1n1 rfl rfl rfl rfl) rfl rfl ?_)
                    refine rw_cons (op_pass (w1n1 rfl rfl rfl rfl) rfl rfl ?_)
                    refine rw_cons (op_pass (w1n1 rfl rfl rfl rfl) rfl rfl ?_)
                    refine rw_cons (op_pass (w1n1 rfl rfl rfl rfl) rfl rfl ?_)
                    refine rw_cons (op_pass (w1n1 rfl rfl rfl rfl) rfl rfl ?_)
                    refine rw_cons (op_pass (w1n1 rfl rfl rfl rfl) rfl rfl ?_)
                    refine rw_cons (op_pv (w0 rfl) rfl rfl (pv_pickF (v := (.bool false)) rfl rfl rfl) ?_)
                    refine rw_cons (op_pv (w0 rfl) rfl rfl (pv_assign (v := (.bool false)) rfl rfl) ?_)
                    refine rw_nil (hK101 _ _ ?_)
                    refine hK99 _ _ ?_
                    refine cw_ret ?_
                    refine fin1 rfl ?_
                    exact ⟨by first | rfl | exact congrArg Value.bool (decide_eq_true (by omega)) | (exfalso; omega), hc⟩
                · -- no
                  replace hb104 := of_decide_eq_false hb104
                  refine rw_cons (op_pass (w1n1 rfl rfl rfl rfl) rfl rfl ?_)
                  refine rw_cons (op_pass (w1n1 rfl rfl rfl rfl) rfl rfl ?_)
                  refine rw_cons (op_pass (w1n1 rfl rfl rfl rfl) rfl rfl ?_)
                  refine rw_cons (op_pass (w1n1 rfl rfl rfl rfl) rfl rfl ?_)
                  refine rw_cons (op_pass (w1n1 rfl rfl rfl rfl) rfl rfl ?_)
                  refine rw_cons (op_pass (w1n1 rfl rfl rfl rfl) rfl rfl ?_)
                  refine rw_cons (op_pass (w1n1 rfl rfl rfl rfl) rfl rfl ?_)
                  refine rw_cons (op_pass (w1n1 rfl rfl rfl rfl) rfl rfl ?_)
                  refine rw_cons (op_pv (w0 rfl) rfl rfl (pv_pickF (v := (.bool false)) rfl rfl rfl) ?_)
                  refine rw_cons (op_pv (w0 rfl) rfl rfl (pv_move (v := (.bool false)) rfl rfl) ?_)
                  refine rw_cons (op_pass (w1n1 rfl rfl rfl rfl) rfl rfl ?_)
                  refine rw_cons (op_pass (w1n1 rfl rfl rfl rfl) rfl rfl ?_)
                  refine rw_cons (op_pass (w1n1 rfl rfl rfl rfl) rfl rfl ?_)
                  refine rw_cons (op_pass (w1n1 rfl rfl rfl rfl) rfl rfl ?_)
                  refine rw_cons (op_pass (w1n1 rfl rfl rfl rfl) rfl rfl ?_)
                  refine rw_cons (op_pass (w1n1 rfl rfl rfl rfl) rfl rfl ?_)
                  refine rw_cons (op_pass (w1n1 rfl rfl rfl rfl) rfl rfl ?_)
                  refine rw_cons (op_pass (w1n1 rfl rfl rfl rfl) rfl rfl ?_)
                  refine rw_cons (op_pass (w1n1 rfl rfl rfl rfl) rfl rfl ?_)
                  refine rw_cons (op_pass (w1n1 rfl rfl rfl rfl) rfl rfl ?_)
                  refine rw_cons (op_pv (w0 rfl) rfl rfl (pv_pickF (v := (.bool false)) rfl rfl rfl) ?_)
                  refine rw_cons (op_pv (w0 rfl) rfl rfl (pv_assign (v := (.bool false)) rfl rfl) ?_)
                  refine rw_nil (hK101 _ _ ?_)
                  refine hK99 _ _ ?_
                  refine cw_ret ?_
                  refine fin1 rfl ?_
                  exact ⟨by first | rfl | exact congrArg Value.bool (decide_eq_true (by omega)) | (exfalso; omega), hc⟩
              · -- no
                replace hb103 := of_decide_eq_false hb103
                refine rw_cons (op_pass (w1n1 rfl rfl rfl rfl) rfl rfl ?_)
                refine rw_cons (op_pass (w1n1 rfl rfl rfl rfl) rfl rfl ?_)
                refine rw_cons (op_pass (w1n1 rfl rfl rfl rfl) rfl rfl ?_)
                refine rw_cons (op_pass (w1n1 rfl rfl rfl rfl) rfl rfl ?_)
                refine rw_cons (op_pass (w1n1 rfl rfl rfl rfl) rfl rfl ?_)
                refine rw_cons (op_pass (w1n1 rfl rfl rfl rfl) rfl rfl ?_)
                refine rw_cons (op_pv (w0 rfl) rfl rfl (pv_pickF (v := (.bool false)) rfl rfl rfl) ?_)
                refine rw_cons (op_pv (w0 rfl) rfl rfl (pv_move (v := (.bool false)) rfl rfl) ?_)
                refine rw_cons (op_pass (w1n1 rfl rfl rfl rfl) rfl rfl ?_)
                refine rw_cons (op_pass (w1n1 rfl rfl rfl rfl) rfl rfl ?_)
                refine rw_cons (op_pass (w1n1 rfl rfl rfl rfl) rfl rfl ?_)
                refine rw_cons (op_pass (w1n1 rfl rfl rfl rfl) rfl rfl ?_)
                refine rw_cons (op_pass (w1n1 rfl rfl rfl rfl) rfl rfl ?_)
                refine rw_cons (op_pass (w1n1 rfl rfl rfl rfl) rfl rfl ?_)
                refine rw_cons (op_pass (w1n1 rfl rfl rfl rfl) rfl rfl ?_)
                refine rw_cons (op_pass (w1n1 rfl rfl rfl rfl) rfl rfl ?_)
                refine rw_cons (op_pv (w0 rfl) rfl rfl (pv_pickF (v := (.bool false)) rfl rfl rfl) ?_)
                refine rw_cons (op_pv (w0 rfl) rfl rfl (pv_move (v := (.bool false)) rfl rfl) ?_)
                refine rw_cons (op_pass (w1n1 rfl rfl rfl rfl) rfl rfl ?_)
                refine rw_cons (op_pass (w1n1 rfl rfl rfl rfl) rfl rfl ?_)
                refine rw_cons (op_pass (w1n1 rfl rfl rfl rfl) rfl rfl ?_)
                refine rw_cons (op_pass (w1n1 rfl rfl rfl rfl) rfl rfl ?_)
                refine rw_cons (op_pass (w1n1 rfl rfl rfl rfl) rfl rfl ?_)
                refine rw_cons (op_pass (w1n1 rfl rfl rfl rfl) rfl rfl ?_)
                refine rw_cons (op_pass (w1n1 rfl rfl rfl rfl) rfl rfl ?_)
                refine rw_cons (op_pass (w1n1 rfl rfl rfl rfl) rfl rfl ?_)
                refine rw_cons (op_pass (w1n1 rfl rfl rfl rfl) rfl rfl ?_)
                refine rw_cons (op_pass (w1n1 rfl rfl rfl rfl) rfl rfl ?_)
                refine rw_cons (op_pv (w0 rfl) rfl rfl (pv_pickF (v := (.bool false)) rfl rfl rfl) ?_)
                refine rw_cons (op_pv (w0 rfl) rfl rfl (pv_assign (v := (.bool false)) rfl rfl) ?_)
                refine rw_nil (hK101 _ _ ?_)
                refine hK99 _ _ ?_
                refine cw_ret ?_
                refine fin1 rfl ?_
                exact ⟨by first | rfl | exact congrArg Value.bool (decide_eq_true (by omega)) | (exfalso; omega), hc⟩
            · -- no
              replace hb102 := of_decide_eq_false hb102
              refine rw_cons (op_pass (w1n1 rfl rfl rfl rfl) rfl rfl ?_)
              refine rw_cons (op_pass (w1n1 rfl rfl rfl rfl) rfl rfl ?_)
              refine rw_cons (op_pv (w0 rfl) rfl rfl (pv_pickF (v := (.bool false)) rfl rfl rfl) ?_)
              refine rw_cons (op_pv (w0 rfl) rfl rfl (pv_move (v := (.bool false)) rfl rfl) ?_)
              refine rw_cons (op_pass (w1n1 rfl rfl rfl rfl) rfl rfl ?_)
              refine rw_cons (op_pass (w1n1 rfl rfl rfl rfl) rfl rfl ?_)
              refine rw_cons (op_pass (w1n1 rfl rfl rfl rfl) rfl rfl ?_)
              refine rw_cons (op_pass (w1n1 rfl rfl rfl rfl) rfl rfl ?_)
              refine rw_cons (op_pass (w1n1 rfl rfl rfl rfl) rfl rfl ?_)
              refine rw_cons (op_pass (w1n1 rfl rfl rfl rfl) rfl rfl ?_)
              refine rw_cons (op_pv (w0 rfl) rfl rfl (pv_pickF (v := (.bool false)) rfl rfl rfl) ?_)
              refine rw_cons (op_pv (w0 rfl) rfl rfl (pv_move (v := (.bool false)) rfl rfl) ?_)
              refine rw_cons (op_pass (w1n1 rfl rfl rfl rfl) rfl rfl ?_)
              refine rw_cons (op_pass (w1n1 rfl rfl rfl rfl) rfl rfl ?_)
              refine rw_cons (op_pass (w1n1 rfl rfl rfl rfl) rfl rfl ?_)
              refine rw_cons (op_pass (w1n1 rfl rfl rfl rfl) rfl rfl ?_)
              refine rw_cons (op_pass (w1n1 rfl rfl rfl rfl) rfl rfl ?_)
              refine rw_cons (op_pass (w1n1 rfl rfl rfl rfl) rfl rfl ?_)
              refine rw_cons (op_pass (w1n1 rfl rfl rfl rfl) rfl rfl ?_)
              refine rw_cons (op_pass (w1n1 rfl rfl rfl rfl) rfl rfl ?_)
              refine rw_cons (op_pv (w0 rfl) rfl rfl (pv_pickF (v := (.bool false)) rfl rfl rfl) ?_)
              refine rw_cons (op_pv (w0 rfl) rfl rfl (pv_move (v := (.bool false)) rfl rfl) ?_)
              refine rw_cons (op_pass (w1n1 rfl rfl rfl rfl) rfl rfl ?_)
              refine rw_cons (op_pass (w1n1 rfl rfl rfl rfl) rfl rfl ?_)
              refine rw_cons (op_pass (w1n1 rfl rfl rfl rfl) rfl rfl ?_)
              refine rw_cons (op_pass (w1n1 rfl rfl rfl rfl) rfl rfl ?_)
              refine rw_cons (op_pass (w1n1 rfl rfl rfl rfl) rfl rfl ?_)
              refine rw_cons (op_pass (w1n1 rfl rfl rfl rfl) rfl rfl ?_)
              refine rw_cons (op_pass (w1n1 rfl rfl rfl rfl) rfl rfl ?_)
              refine rw_cons (op_pass (w1n1 rfl rfl rfl rfl) rfl rfl ?_)
              refine rw_cons (op_pass (w1n1 rfl rfl rfl rfl) rfl rfl ?_)
              refine rw_cons (op_pass (w1n1 rfl rfl rfl rfl) rfl rfl ?_)
              refine rw_cons (op_pv (w0 rfl) rfl rfl (pv_pickF (v := (.bool false)) rfl rfl rfl) ?_)
              refine rw_cons (op_pv (w0 rfl) rfl rfl (pv_assign (v := (.bool false)) rfl rfl) ?_)
              refine rw_nil (hK101 _ _ ?_)
              refine hK99 _ _ ?_
              refine cw_ret ?_
              refine fin1 rfl ?_
              exact ⟨by first | rfl | exact congrArg Value.bool (decide_eq_true (by omega)) | (exfalso; omega), hc⟩
          · -- else
            replace h91 := of_decide_eq_false h91
            refine cw_skip ?_
            refine hK84 _ _ ?_
            refine cw_region fun K110 hK111 => ?_
            refine rw_cons (op_pv (w0 rfl) rfl rfl (pv_move (v := (.int .i64 (k : Int))) rfl rfl) ?_)
            refine rw_cons (op_pv (w0 rfl) rfl rfl (pv_add rfl rfl rfl (by omega) (by omega)) ?_)
            refine rw_cons (op_pv (w0 rfl) rfl rfl (pv_assign (v := (.int .i64 ((k : Int) + 1))) rfl rfl) ?_)
            refine rw_nil (hK111 _ _ ?_)
            refine hK70 _ _ (k + 1) ⟨(iv (by omega)), rfl, rfl, rfl, rfl, rfl, trivial⟩ ⟨?_, hR0, hO27, hD30, hc, (by omega)⟩ ?_
            · refine ⟨by omega, fun q hq => ?_⟩
              by_cases e : q = k
              · subst e; assumption
              · exact hye q (by omega)
            · (first | omega | (simp only []; omega))
        · -- else
          replace h82 := of_decide_eq_false h82
          refine cw_exit ?_
          refine hK62 _ _ ?_
          refine cw_seq fun K112 hK113 => ?_
          refine cw_region fun K114 hK115 => ?_
          refine rw_cons (op_pv (w0 rfl) rfl rfl (pv_assign (v := (.bool false)) rfl rfl) ?_)
          refine rw_nil (hK115 _ _ ?_)
          refine hK113 _ _ ?_
          refine cw_ret ?_
          refine fin1 rfl ?_
          exact (at_some hok (fun q hq => hye q (by omega))).elim
end Go.Proofs.Ythgnlljpjpklpaa

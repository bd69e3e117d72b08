/-
  The walk of laws.FnBytesPart, written by program: each line names the law of one operation. Conditions: those of the theorem.
-/
import Derived.Test.YthgnnpafieifmaaProg
import Derived.Test.YthgnnpafieifmaaZeros
import Derived.Test.YthgnnpafieifmaaFspecDrawBytesValid
import Derived.Test.YthgnnpafieifmaaFimplBytesValid
import Derived.Test.YthgnnpafieifmaaFspecBytesValid
import Derived.KernelRfl
namespace Go.Proofs.Ythgnnpafieifmaa
open Go Go.RowKit
set_option linter.unusedVariables false
set_option linter.unusedSimpArgs false
namespace FnBytesPart_okF
theorem T3 : TI Try.prog 3 false (.int .i64 0) 1 8 := TI.mk' Try.underlying3 rfl (by kernel_rfl)
theorem C17 : Callable Try.prog 17 := ⟨_, Try.func17, by kernel_rfl, by kernel_rfl⟩
theorem C19 : Callable Try.prog 19 := ⟨_, Try.func19, by kernel_rfl, by kernel_rfl⟩
theorem C21 : Callable Try.prog 21 := ⟨_, Try.func21, by kernel_rfl, by kernel_rfl⟩
end FnBytesPart_okF
open FnBytesPart_okF in
set_option maxHeartbeats 4000000 in
theorem FnBytesPart_ok (A0 : Option Addr) (n0 c0 : Nat) (xs0 : List UInt8) (w : World) (hR0 : RS encU 1 w w.heap.size A0 n0 xs0) (hn0 : n0 ≤ c0) :
    Fn Try.prog 4 [(.slice A0 n0 c0)] w fun v w' => v = .bool true ∧ Ch [] w w' := by
  have hlen0 := hR0.len
  refine fn_of (n := 46) Try.func4 rfl rfl rfl rfl ?_
  have hc : Ch [] w w := Ch.refl _ _
  refine cw_seq fun K1 hK2 => ?_
  refine cw_region fun K3 hK4 => ?_
  refine rw_cons (op_pv (w0 rfl) rfl rfl (pv_assign (v := (.bool false)) rfl rfl) ?_)
  refine rw_nil (hK4 _ _ ?_)
  refine hK2 _ _ ?_
  refine cw_seq fun K5 hK6 => ?_
  refine cw_seq fun K7 hK8 => ?_
  refine cw_region fun K9 hK10 => ?_
  refine rw_cons (op_pv (w0 rfl) rfl rfl (pv_move (v := (.slice A0 n0 c0)) rfl rfl) ?_)
  refine rw_cons (op_pv (w0 rfl) rfl rfl (pv_len Try.underlying26 rfl rfl) ?_)
  refine rw_cons (op_pv (w0 rfl) rfl rfl (pv_gtr rfl rfl rfl) ?_)
  refine rw_nil (hK10 _ _ ?_)
  refine hK8 _ _ ?_
  refine cw_cond rfl (fun h11 => ?_) (fun h11 => ?_)
  · -- then
    replace h11 := of_decide_eq_true h11
    refine cw_seq fun K12 hK13 => ?_
    refine cw_region fun K14 hK15 => ?_
    refine rw_cons (op_pv (w0 rfl) rfl rfl (pv_assign (v := (.bool true)) rfl rfl) ?_)
    refine rw_nil (hK15 _ _ ?_)
    refine hK13 _ _ ?_
    refine cw_ret ?_
    refine fin1 rfl ?_
    first
      | exact ⟨congrArg Value.bool (beq_self_eq_true _), hc⟩
      | exact absurd rfl ‹_ ≠ _›
      | exact ⟨rfl, hc⟩
  · -- else
    replace h11 := of_decide_eq_false h11
    refine cw_skip ?_
    refine hK6 _ _ ?_
    refine cw_seq fun K16 hK17 => ?_
    refine cw_region fun K18 hK19 => ?_
    refine rw_cons (op_pv (w0 rfl) rfl rfl (pv_move (v := (.slice A0 n0 c0)) rfl rfl) ?_)
    refine rw_cons (op_call (w0 rfl) rfl rfl (rc_call C21 rfl rfl) (DrawBytesValid_ok _ _ _ _ _ (hR0.more (by omega)) (by omega)) ?_)
    rintro _ w20 ⟨A23, c24, xs25, rfl, hO26, hl21, hch22⟩
    have hsz28 := hch22.size
    replace hR0 := hR0.ch0 hch22
    replace hc := hc.step0 hch22
    have hub27 := hO26.lt
    have hcap29 : xs25.length ≤ c24 := by obtain ⟨_, _, hv, h1, _⟩ := hO26.form; injection hv with _ _ h3; omega
    refine rw_cons (op_pv (w0 rfl) rfl rfl (pv_assign (v := (.slice A23 xs25.length c24)) rfl rfl) ?_)
    refine rw_nil (hK19 _ _ ?_)
    refine hK17 _ _ ?_
    refine cw_seq fun K30 hK31 => ?_
    refine cw_region fun K32 hK33 => ?_
    refine rw_cons (op_pv (w0 rfl) rfl rfl (pv_move (v := (.slice A23 xs25.length c24)) rfl rfl) ?_)
    refine rw_cons (op_call (w0 rfl) rfl rfl (rc_call C19 rfl rfl) (BytesValid_i _ _ _ xs25 _ (hO26.rs (fun _ => rfl)) (by omega)) ?_)
    rintro _ w34 ⟨rfl, hch35⟩
    have hsz36 := hch35.size
    replace hR0 := hR0.ch0 hch35
    replace hO26 := hO26.ch0 hch35
    replace hc := hc.step0 hch35
    refine rw_cons (op_pv (w0 rfl) rfl rfl (pv_assign (v := (.bool (dec (BytesOK xs25)))) rfl rfl) ?_)
    refine rw_nil (hK33 _ _ ?_)
    refine hK31 _ _ ?_
    refine cw_seq fun K37 hK38 => ?_
    refine cw_region fun K39 hK40 => ?_
    refine rw_cons (op_pv (w0 rfl) rfl rfl (pv_move (v := (.slice A23 xs25.length c24)) rfl rfl) ?_)
    refine rw_cons (op_call (w0 rfl) rfl rfl (rc_call C17 rfl rfl) (BytesValid_s _ _ _ xs25 _ (hO26.rs (fun _ => rfl)) (by omega)) ?_)
    rintro _ w41 ⟨rfl, hch42⟩
    have hsz43 := hch42.size
    replace hR0 := hR0.ch0 hch42
    replace hO26 := hO26.ch0 hch42
    replace hc := hc.step0 hch42
    refine rw_cons (op_pv (w0 rfl) rfl rfl (pv_assign (v := (.bool (dec (BytesOK xs25)))) rfl rfl) ?_)
    refine rw_nil (hK40 _ _ ?_)
    refine hK38 _ _ ?_
    refine cw_seq fun K44 hK45 => ?_
    refine cw_seq fun K46 hK47 => ?_
    refine cw_region fun K48 hK49 => ?_
    refine rw_cons (op_pv (w0 rfl) rfl rfl (pv_move (v := (.bool (dec (BytesOK xs25)))) rfl rfl) ?_)
    refine rw_cons (op_pv (w0 rfl) rfl rfl (pv_move (v := (.bool (dec (BytesOK xs25)))) rfl rfl) ?_)
    refine rw_cons (op_pv (w0 rfl) rfl rfl (pv_neqB Try.underlying4 rfl rfl rfl) ?_)
    refine rw_cons (op_pv (w0 rfl) rfl rfl (pv_move (v := (.bool (!((dec (BytesOK xs25)) == (dec (BytesOK xs25)))))) rfl rfl) ?_)
    refine rw_split 19 rfl (fun hb50 => ?_) (fun hb50 => ?_)
    · -- yes
      replace hb50 := not_t hb50
      replace hb50 := ne_of_beq_false hb50
      refine rw_cons (op_pass (w1n2 rfl rfl rfl rfl) rfl rfl ?_)
      refine rw_cons (op_pass (w1n2 rfl rfl rfl rfl) rfl rfl ?_)
      refine rw_cons (op_pv (w0 rfl) rfl rfl (pv_pickT (v := (.bool true)) rfl rfl rfl) ?_)
      refine rw_nil (hK49 _ _ ?_)
      refine hK47 _ _ ?_
      refine cw_cond rfl (fun h51 => ?_) (fun h51 => ?_)
      · -- then
        clear h51
        refine cw_seq fun K52 hK53 => ?_
        refine cw_region fun K54 hK55 => ?_
        refine rw_cons (op_pv (w0 rfl) rfl rfl (pv_move (v := (.bool (dec (BytesOK xs25)))) rfl rfl) ?_)
        refine rw_cons (op_pv (w0 rfl) rfl rfl (pv_move (v := (.bool (dec (BytesOK xs25)))) rfl rfl) ?_)
        refine rw_cons (op_pv (w0 rfl) rfl rfl (pv_eqlB Try.underlying4 rfl rfl rfl) ?_)
        refine rw_cons (op_pv (w0 rfl) rfl rfl (pv_assign (v := (.bool ((dec (BytesOK xs25)) == (dec (BytesOK xs25))))) rfl rfl) ?_)
        refine rw_nil (hK55 _ _ ?_)
        refine hK53 _ _ ?_
        refine cw_ret ?_
        refine fin1 rfl ?_
        first
          | exact ⟨congrArg Value.bool (beq_self_eq_true _), hc⟩
          | exact absurd rfl ‹_ ≠ _›
          | exact ⟨rfl, hc⟩
      · -- else
        cases h51
    · -- no
      replace hb50 := not_f hb50
      replace hb50 := eq_of_beq hb50
      refine rw_cons (op_pv (w1y rfl rfl rfl rfl) rfl rfl (pv_move (v := (.bool (dec (BytesOK xs25)))) rfl rfl) ?_)
      refine rw_cons (op_pv (w1y rfl rfl rfl rfl) rfl rfl (pv_not rfl rfl) ?_)
      refine rw_cons (op_pv (w0 rfl) rfl rfl (pv_pickF (v := (.bool (!(dec (BytesOK xs25))))) rfl rfl rfl) ?_)
      refine rw_nil (hK49 _ _ ?_)
      refine hK47 _ _ ?_
      refine cw_cond rfl (fun h56 => ?_) (fun h56 => ?_)
      · -- then
        replace h56 := not_t h56
        replace h56 := dec_f h56
        refine cw_seq fun K57 hK58 => ?_
        refine cw_region fun K59 hK60 => ?_
        refine rw_cons (op_pv (w0 rfl) rfl rfl (pv_move (v := (.bool (dec (BytesOK xs25)))) rfl rfl) ?_)
        refine rw_cons (op_pv (w0 rfl) rfl rfl (pv_move (v := (.bool (dec (BytesOK xs25)))) rfl rfl) ?_)
        refine rw_cons (op_pv (w0 rfl) rfl rfl (pv_eqlB Try.underlying4 rfl rfl rfl) ?_)
        refine rw_cons (op_pv (w0 rfl) rfl rfl (pv_assign (v := (.bool ((dec (BytesOK xs25)) == (dec (BytesOK xs25))))) rfl rfl) ?_)
        refine rw_nil (hK60 _ _ ?_)
        refine hK58 _ _ ?_
        refine cw_ret ?_
        refine fin1 rfl ?_
        first
          | exact ⟨congrArg Value.bool (beq_self_eq_true _), hc⟩
          | exact absurd rfl ‹_ ≠ _›
          | exact ⟨rfl, hc⟩
      · -- else
        replace h56 := not_f h56
        replace h56 := dec_t h56
        refine cw_skip ?_
        refine hK45 _ _ ?_
        refine cw_seq fun K61 hK62 => ?_
        refine cw_region fun K63 hK64 => ?_
        refine rw_cons (op_bslice [] Try.underlying22 T3 (w0 rfl) rfl rfl rfl rfl rfl (by simp [Value.cells]) (by decide) ?_)
        intro g66 w65 hg69 hg70 hK68 hch67
        have hO71 : Own encI 1 w65 w41.heap.size 3 (.slice ((some ⟨g66, 0, none⟩)) 0 0) ([] : List Int) := Blk.own (xs := ([] : List Int)) hK68 (by omega) rfl (by decide) rfl
        have hsz72 := hch67.size
        replace hR0 := hR0.ch0 hch67
        replace hO26 := hO26.ch0 hch67
        replace hc := hc.step0 hch67
        have hub73 := hO71.lt
        refine rw_cons (op_pv (w0 rfl) rfl rfl (pv_move (v := (.slice A23 xs25.length c24)) rfl rfl) ?_)
        refine rw_cons (op_append Try.underlying22 T3 (fun _ => rfl) rfl (by decide) (fun _ => one_all rfl) (w0 rfl) rfl rfl rfl rfl rfl hO71 (hO26.rs (fun _ => rfl)) (by unfold maxLen; first | omega | (simp; omega)) (by first | omega | (simp; omega)) (by omega) ?_)
        rintro v74 w75 hO76 hch77 hs78
        have hl79 : (([] : List Int) ++ xs25).length = 0 + xs25.length := by first | (have hl0 := (hO26.rs (fun _ => rfl)).len; simp only [List.length_append, List.length_cons, List.length_nil] at hl0 ⊢; omega) | simp | rfl
        have hsz80 := hch77.size
        replace hR0 := hR0.ch hch77 (hO71.off.le (by omega))
        replace hO26 := hO26.ch hch77 (fun s hs hs2 => by first | (have h1 := hO26.off s hs; have h2 := hub73 s hs2; omega) | (have h1 := hub27 s hs; have h2 := hO71.off s hs2; omega) | (have h2 := hub73 s hs2; simp [obl, Value.ownBlock] at hs; omega) | (have h1 := hub27 s hs; simp [obl, Value.ownBlock] at hs2; omega))
        replace hc := (hO71.off.le (by omega)).step hc hch77
        have hub81 := hO76.lt
        obtain ⟨A82, c83, hv84, hcap85, hcap86⟩ := hO76.form; subst hv84
        refine rw_cons (op_appendZ (k := 17) default Try.underlying22 Try.underlying3 T3 (fun _ => rfl) rfl (by decide) (one_all rfl) (w0 rfl) rfl rfl rfl rfl rfl hO76 (by omega) (by unfold maxLen; first | omega | (simp; omega)) (by first | omega | (simp; omega)) (by omega) ?_)
        rintro v87 w88 hO89 hch90 hs91
        have hl92 : ((([] : List Int) ++ xs25) ++ List.replicate 17 default).length = ((([] : List Int) ++ xs25)).length + 17 := by simp
        have hsz93 := hch90.size
        replace hR0 := hR0.ch hch90 (hO76.off.le (by omega))
        replace hO26 := hO26.ch hch90 (fun s hs hs2 => by first | (have h1 := hO26.off s hs; have h2 := hub81 s hs2; omega) | (have h1 := hub27 s hs; have h2 := hO76.off s hs2; omega) | (have h2 := hub81 s hs2; simp [obl, Value.ownBlock] at hs; omega) | (have h1 := hub27 s hs; simp [obl, Value.ownBlock] at hs2; omega))
        replace hc := (hO76.off.le (by omega)).step hc hch90
        have hub94 := hO89.lt
        obtain ⟨A95, c96, hv97, hcap98, hcap99⟩ := hO89.form; subst hv97
        refine rw_cons (op_pv (w0 rfl) rfl rfl (pv_assign (v := (.slice A95 (((([] : List Int) ++ xs25) ++ List.replicate 17 default).length) c96)) rfl rfl) ?_)
        refine rw_nil (hK64 _ _ ?_)
        refine hK62 _ _ ?_
        refine cw_seq fun K100 hK101 => ?_
        refine cw_region fun K102 hK103 => ?_
        refine rw_cons (op_pv (w0 rfl) rfl rfl (pv_move (v := (.slice A95 (((([] : List Int) ++ xs25) ++ List.replicate 17 default).length) c96)) rfl rfl) ?_)
        refine rw_cons (op_call (w0 rfl) rfl rfl (rc_call C19 rfl rfl) (BytesValid_i _ _ _ (((([] : List Int) ++ xs25) ++ List.replicate 17 default)) _ (hO89.rs (fun _ => rfl)) (by omega)) ?_)
        rintro _ w104 ⟨rfl, hch105⟩
        have hsz106 := hch105.size
        replace hR0 := hR0.ch0 hch105
        replace hO26 := hO26.ch0 hch105
        replace hO89 := hO89.ch0 hch105
        replace hc := hc.step0 hch105
        refine rw_cons (op_pv (w0 rfl) rfl rfl (pv_not rfl rfl) ?_)
        refine rw_cons (op_pv (w0 rfl) rfl rfl (pv_move (v := (.bool (!(dec (BytesOK (((([] : List Int) ++ xs25) ++ List.replicate 17 default))))))) rfl rfl) ?_)
        refine rw_split 33 rfl (fun hb107 => ?_) (fun hb107 => ?_)
        · -- yes
          replace hb107 := not_t hb107
          replace hb107 := dec_f hb107
          refine rw_cons (op_pv (w1y rfl rfl rfl rfl) rfl rfl (pv_move (v := (.slice A23 xs25.length c24)) rfl rfl) ?_)
          refine rw_cons (op_pv (w1y rfl rfl rfl rfl) rfl rfl (pv_len Try.underlying22 rfl rfl) ?_)
          refine rw_cons (op_pv (w1y rfl rfl rfl rfl) rfl rfl (pv_eql rfl rfl rfl) ?_)
          refine rw_cons (op_pv (w1y rfl rfl rfl rfl) rfl rfl (pv_move (v := (.bool (decide (((xs25.length : Int) : Int) = 0)))) rfl rfl) ?_)
          refine rw_split 37 rfl (fun hb108 => ?_) (fun hb108 => ?_)
          · -- yes
            replace hb108 := of_decide_eq_true hb108
            refine rw_cons (op_pass (w1n2 rfl rfl rfl rfl) rfl rfl ?_)
            refine rw_cons (op_pass (w1n2 rfl rfl rfl rfl) rfl rfl ?_)
            refine rw_cons (op_pass (w1n2 rfl rfl rfl rfl) rfl rfl ?_)
            refine rw_cons (op_pass (w1n2 rfl rfl rfl rfl) rfl rfl ?_)
            refine rw_cons (op_pass (w1n2 rfl rfl rfl rfl) rfl rfl ?_)
            refine rw_cons (op_pass (w1n2 rfl rfl rfl rfl) rfl rfl ?_)
            refine rw_cons (op_pv (w1y rfl rfl rfl rfl) rfl rfl (pv_pickT (v := (.bool true)) rfl rfl rfl) ?_)
            refine rw_cons (op_pv (w0 rfl) rfl rfl (pv_pickT (v := (.bool true)) rfl rfl rfl) ?_)
            refine rw_cons (op_pv (w0 rfl) rfl rfl (pv_assign (v := (.bool true)) rfl rfl) ?_)
            refine rw_nil (hK103 _ _ ?_)
            refine hK101 _ _ ?_
            refine cw_ret ?_
            refine fin1 rfl ?_
            have hlong : ¬BytesOK (((([] : List Int) ++ xs25) ++ List.replicate 17 default)) := bytes_long (by omega)
            have htake := bytes_take ‹BytesOK xs25›
            first
              | exact absurd ‹BytesOK (((([] : List Int) ++ xs25) ++ List.replicate 17 default))› hlong
              | exact ⟨rfl, hc⟩
              | exact ⟨congrArg Value.bool (dec_yes (htake _)), hc⟩
          · -- no
            replace hb108 := of_decide_eq_false hb108
            refine rw_cons (op_pv (w1y rfl rfl rfl rfl) rfl rfl (pv_move (v := (.slice A23 xs25.length c24)) rfl rfl) ?_)
            refine rw_cons (op_pv (w1y rfl rfl rfl rfl) rfl rfl (pv_move (v := (.slice A23 xs25.length c24)) rfl rfl) ?_)
            refine rw_cons (op_pv (w1y rfl rfl rfl rfl) rfl rfl (pv_len Try.underlying22 rfl rfl) ?_)
            refine rw_cons (op_pv (w1y rfl rfl rfl rfl) rfl rfl (pv_sub rfl rfl rfl (by omega) (by omega)) ?_)
            refine rw_cons (op_pv (w1y rfl rfl rfl rfl) rfl rfl (pv_upto Try.underlying22 T3 rfl rfl rfl (by omega) (by omega)) ?_)
            have hR109 : RS encI 1 w104 w104.heap.size A23 (((xs25.length : Int)) - 1).toNat (xs25.take (((xs25.length : Int)) - 1).toNat) := ((hO26.rs (fun _ => rfl))).upto (by omega)
            refine rw_cons (op_call (w1y rfl rfl rfl rfl) rfl rfl (rc_call C19 rfl rfl) (BytesValid_i _ _ _ ((xs25.take (((xs25.length : Int)) - 1).toNat)) _ (hR109.more (by omega)) (by omega)) ?_)
            rintro _ w110 ⟨rfl, hch111⟩
            have hsz112 := hch111.size
            replace hR0 := hR0.ch0 hch111
            replace hO26 := hO26.ch0 hch111
            replace hO89 := hO89.ch0 hch111
            replace hR109 := hR109.ch0 hch111
            replace hc := hc.step0 hch111
            refine rw_cons (op_pv (w1y rfl rfl rfl rfl) rfl rfl (pv_pickF (v := (.bool (dec (BytesOK ((xs25.take (((xs25.length : Int)) - 1).toNat)))))) rfl rfl rfl) ?_)
            refine rw_cons (op_pv (w0 rfl) rfl rfl (pv_pickT (v := (.bool (dec (BytesOK ((xs25.take (((xs25.length : Int)) - 1).toNat)))))) rfl rfl rfl) ?_)
            refine rw_cons (op_pv (w0 rfl) rfl rfl (pv_assign (v := (.bool (dec (BytesOK ((xs25.take (((xs25.length : Int)) - 1).toNat)))))) rfl rfl) ?_)
            refine rw_nil (hK103 _ _ ?_)
            refine hK101 _ _ ?_
            refine cw_ret ?_
            refine fin1 rfl ?_
            have hlong : ¬BytesOK (((([] : List Int) ++ xs25) ++ List.replicate 17 default)) := bytes_long (by omega)
            have htake := bytes_take ‹BytesOK xs25›
            first
              | exact absurd ‹BytesOK (((([] : List Int) ++ xs25) ++ List.replicate 17 default))› hlong
              | exact ⟨rfl, hc⟩
              | exact ⟨congrArg Value.bool (dec_yes (htake _)), hc⟩
        · -- no
          replace hb107 := not_f hb107
          replace hb107 := dec_t hb107
          refine rw_cons (op_pass (w1n1 rfl rfl rfl rfl) rfl rfl ?_)
          refine rw_cons (op_pass (w1n1 rfl rfl rfl rfl) rfl rfl ?_)
          refine rw_cons (op_pass (w1n1 rfl rfl rfl rfl) rfl rfl ?_)
          refine rw_cons (op_pass (w1n1 rfl rfl rfl rfl) rfl rfl ?_)
          refine rw_cons (op_pass (w1u rfl rfl rfl) rfl rfl ?_)
          refine rw_cons (op_pass (w1u rfl rfl rfl) rfl rfl ?_)
          refine rw_cons (op_pass (w1u rfl rfl rfl) rfl rfl ?_)
          refine rw_cons (op_pass (w1u rfl rfl rfl) rfl rfl ?_)
          refine rw_cons (op_pass (w1u rfl rfl rfl) rfl rfl ?_)
          refine rw_cons (op_pass (w1u rfl rfl rfl) rfl rfl ?_)
          refine rw_cons (op_pass (w1n1 rfl rfl rfl rfl) rfl rfl ?_)
          refine rw_cons (op_pv (w0 rfl) rfl rfl (pv_pickF (v := (.bool false)) rfl rfl rfl) ?_)
          refine rw_cons (op_pv (w0 rfl) rfl rfl (pv_assign (v := (.bool false)) rfl rfl) ?_)
          refine rw_nil (hK103 _ _ ?_)
          refine hK101 _ _ ?_
          refine cw_ret ?_
          refine fin1 rfl ?_
          have hlong : ¬BytesOK (((([] : List Int) ++ xs25) ++ List.replicate 17 default)) := bytes_long (by omega)
          have htake := bytes_take ‹BytesOK xs25›
          first
            | exact absurd ‹BytesOK (((([] : List Int) ++ xs25) ++ List.replicate 17 default))› hlong
            | exact ⟨rfl, hc⟩
            | exact ⟨congrArg Value.bool (dec_yes (htake _)), hc⟩
end Go.Proofs.Ythgnnpafieifmaa

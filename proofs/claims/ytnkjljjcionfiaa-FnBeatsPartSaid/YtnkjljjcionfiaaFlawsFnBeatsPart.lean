/-
  The walk of laws.FnBeatsPart, written by program: each line names the law of one operation. Conditions: those of the theorem.
-/
import Derived.Test.YtnkjljjcionfiaaProg
import Derived.Test.YtnkjljjcionfiaaFspecDrawBeatsValid
import Derived.Test.YtnkjljjcionfiaaFimplBeatsValid
import Derived.Test.YtnkjljjcionfiaaFspecBeatsValid
import Derived.KernelRfl
namespace Go.Proofs.Ytnkjljjcionfiaa
open Go Go.RowKit
set_option linter.unusedVariables false
set_option linter.unusedSimpArgs false
namespace FnBeatsPart_okF
theorem T39 : TI Try.prog 39 true (.agg #[.int .i64 0, .int .i64 0]) 2 16 := TI.mk' Try.underlying39 rfl (by kernel_rfl)
theorem C16 : Callable Try.prog 16 := ⟨_, Try.func16, by kernel_rfl, by kernel_rfl⟩
theorem C17 : Callable Try.prog 17 := ⟨_, Try.func17, by kernel_rfl, by kernel_rfl⟩
theorem C18 : Callable Try.prog 18 := ⟨_, Try.func18, by kernel_rfl, by kernel_rfl⟩
end FnBeatsPart_okF
open FnBeatsPart_okF in
set_option maxHeartbeats 4000000 in
theorem FnBeatsPart_ok (A0 : Option Addr) (n0 c0 : Nat) (xs0 : List UInt8) (A1 : Option Addr) (n1 c1 : Nat) (xs1 : List UInt8) (w : World) (hR0 : RS encU 1 w w.heap.size A0 n0 xs0) (hn0 : n0 ≤ c0) (hR1 : RS encU 1 w w.heap.size A1 n1 xs1) (hn1 : n1 ≤ c1) :
    Fn Try.prog 3 [(.slice A0 n0 c0), (.slice A1 n1 c1)] w fun v w' => v = .bool true ∧ Ch [] w w' := by
  have hlen0 := hR0.len
  have hlen1 := hR1.len
  refine fn_of (n := 72) Try.func3 rfl rfl rfl rfl ?_
  have hc : Ch [] w w := Ch.refl _ _
  refine cw_seq fun K1 hK2 => ?_
  refine cw_region fun K3 hK4 => ?_
  refine rw_cons (op_pv (w0 rfl) rfl rfl (pv_assign (v := (.bool false)) rfl rfl) ?_)
  refine rw_nil (hK4 _ _ ?_)
  refine hK2 _ _ ?_
  refine cw_seq fun K5 hK6 => ?_
  refine cw_seq fun K7 hK8 => ?_
  refine cw_region fun K9 hK10 => ?_
  refine rw_cons (op_pv (w0 rfl) rfl rfl (pv_move (v := (.slice A0 n0 c0)) rfl rfl) ?_)
  refine rw_cons (op_pv (w0 rfl) rfl rfl (pv_len Try.underlying22 rfl rfl) ?_)
  refine rw_cons (op_pv (w0 rfl) rfl rfl (pv_gtr rfl rfl rfl) ?_)
  refine rw_cons (op_pv (w0 rfl) rfl rfl (pv_move (v := (.bool (decide (1048576 < (n0 : Int))))) rfl rfl) ?_)
  refine rw_split 14 rfl (fun hb11 => ?_) (fun hb11 => ?_)
  · -- yes
    replace hb11 := of_decide_eq_true hb11
    refine rw_cons (op_pass (w1n2 rfl rfl rfl rfl) rfl rfl ?_)
    refine rw_cons (op_pass (w1n2 rfl rfl rfl rfl) rfl rfl ?_)
    refine rw_cons (op_pass (w1n2 rfl rfl rfl rfl) rfl rfl ?_)
    refine rw_cons (op_pv (w0 rfl) rfl rfl (pv_pickT (v := (.bool true)) rfl rfl rfl) ?_)
    refine rw_nil (hK10 _ _ ?_)
    refine hK8 _ _ ?_
    refine cw_cond rfl (fun h12 => ?_) (fun h12 => ?_)
    · -- then
      clear h12
      refine cw_seq fun K13 hK14 => ?_
      refine cw_region fun K15 hK16 => ?_
      refine rw_cons (op_pv (w0 rfl) rfl rfl (pv_assign (v := (.bool true)) rfl rfl) ?_)
      refine rw_nil (hK16 _ _ ?_)
      refine hK14 _ _ ?_
      refine cw_ret ?_
      refine fin1 rfl ?_
      first
        | exact ⟨congrArg Value.bool (beq_self_eq_true _), hc⟩
        | exact absurd rfl ‹_ ≠ _›
        | exact ⟨rfl, hc⟩
    · -- else
      cases h12
  · -- no
    replace hb11 := of_decide_eq_false hb11
    refine rw_cons (op_pv (w1y rfl rfl rfl rfl) rfl rfl (pv_move (v := (.slice A1 n1 c1)) rfl rfl) ?_)
    refine rw_cons (op_pv (w1y rfl rfl rfl rfl) rfl rfl (pv_len Try.underlying22 rfl rfl) ?_)
    refine rw_cons (op_pv (w1y rfl rfl rfl rfl) rfl rfl (pv_gtr rfl rfl rfl) ?_)
    refine rw_cons (op_pv (w0 rfl) rfl rfl (pv_pickF (v := (.bool (decide (1048576 < (n1 : Int))))) rfl rfl rfl) ?_)
    refine rw_nil (hK10 _ _ ?_)
    refine hK8 _ _ ?_
    refine cw_cond rfl (fun h17 => ?_) (fun h17 => ?_)
    · -- then
      replace h17 := of_decide_eq_true h17
      refine cw_seq fun K18 hK19 => ?_
      refine cw_region fun K20 hK21 => ?_
      refine rw_cons (op_pv (w0 rfl) rfl rfl (pv_assign (v := (.bool true)) rfl rfl) ?_)
      refine rw_nil (hK21 _ _ ?_)
      refine hK19 _ _ ?_
      refine cw_ret ?_
      refine fin1 rfl ?_
      first
        | exact ⟨congrArg Value.bool (beq_self_eq_true _), hc⟩
        | exact absurd rfl ‹_ ≠ _›
        | exact ⟨rfl, hc⟩
    · -- else
      replace h17 := of_decide_eq_false h17
      refine cw_skip ?_
      refine hK6 _ _ ?_
      refine cw_seq fun K22 hK23 => ?_
      refine cw_region fun K24 hK25 => ?_
      refine rw_cons (op_pv (w0 rfl) rfl rfl (pv_move (v := (.slice A0 n0 c0)) rfl rfl) ?_)
      refine rw_cons (op_call (w0 rfl) rfl rfl (rc_call C16 rfl rfl) (DrawBeatsValid_ok _ _ _ _ _ (hR0.more (by omega)) (by omega)) ?_)
      rintro _ w26 ⟨A29, c30, xs31, rfl, hO32, hl27, hch28⟩
      have hsz34 := hch28.size
      replace hR0 := hR0.ch0 hch28
      replace hR1 := hR1.ch0 hch28
      replace hc := hc.step0 hch28
      have hub33 := hO32.lt
      have hcap35 : xs31.length ≤ c30 := by obtain ⟨_, _, hv, h1, _⟩ := hO32.form; injection hv with _ _ h3; omega
      refine rw_cons (op_pv (w0 rfl) rfl rfl (pv_assign (v := (.slice A29 xs31.length c30)) rfl rfl) ?_)
      refine rw_nil (hK25 _ _ ?_)
      refine hK23 _ _ ?_
      refine cw_seq fun K36 hK37 => ?_
      refine cw_region fun K38 hK39 => ?_
      refine rw_cons (op_pv (w0 rfl) rfl rfl (pv_move (v := (.slice A29 xs31.length c30)) rfl rfl) ?_)
      refine rw_cons (op_call (w0 rfl) rfl rfl (rc_call C17 rfl rfl) (BeatsValid_i _ _ _ xs31 _ (hO32.rs (fun _ => rfl)) (by omega)) ?_)
      rintro _ w40 ⟨rfl, hch41⟩
      have hsz42 := hch41.size
      replace hR0 := hR0.ch0 hch41
      replace hR1 := hR1.ch0 hch41
      replace hO32 := hO32.ch0 hch41
      replace hc := hc.step0 hch41
      refine rw_cons (op_pv (w0 rfl) rfl rfl (pv_assign (v := (.bool (dec (BeatsOK xs31)))) rfl rfl) ?_)
      refine rw_nil (hK39 _ _ ?_)
      refine hK37 _ _ ?_
      refine cw_seq fun K43 hK44 => ?_
      refine cw_region fun K45 hK46 => ?_
      refine rw_cons (op_pv (w0 rfl) rfl rfl (pv_move (v := (.slice A29 xs31.length c30)) rfl rfl) ?_)
      refine rw_cons (op_call (w0 rfl) rfl rfl (rc_call C18 rfl rfl) (BeatsValid_s _ _ _ xs31 _ (hO32.rs (fun _ => rfl)) (by omega)) ?_)
      rintro _ w47 ⟨rfl, hch48⟩
      have hsz49 := hch48.size
      replace hR0 := hR0.ch0 hch48
      replace hR1 := hR1.ch0 hch48
      replace hO32 := hO32.ch0 hch48
      replace hc := hc.step0 hch48
      refine rw_cons (op_pv (w0 rfl) rfl rfl (pv_assign (v := (.bool (dec (BeatsOK xs31)))) rfl rfl) ?_)
      refine rw_nil (hK46 _ _ ?_)
      refine hK44 _ _ ?_
      refine cw_seq fun K50 hK51 => ?_
      refine cw_seq fun K52 hK53 => ?_
      refine cw_region fun K54 hK55 => ?_
      refine rw_cons (op_pv (w0 rfl) rfl rfl (pv_move (v := (.bool (dec (BeatsOK xs31)))) rfl rfl) ?_)
      refine rw_cons (op_pv (w0 rfl) rfl rfl (pv_move (v := (.bool (dec (BeatsOK xs31)))) rfl rfl) ?_)
      refine rw_cons (op_pv (w0 rfl) rfl rfl (pv_neBs Try.underlying4 rfl rfl rfl) ?_)
      refine rw_cons (op_pv (w0 rfl) rfl rfl (pv_move (v := (.bool false)) rfl rfl) ?_)
      refine rw_cons (op_pv (w1y rfl rfl rfl rfl) rfl rfl (pv_move (v := (.bool (dec (BeatsOK xs31)))) rfl rfl) ?_)
      refine rw_cons (op_pv (w1y rfl rfl rfl rfl) rfl rfl (pv_not rfl rfl) ?_)
      refine rw_cons (op_pv (w0 rfl) rfl rfl (pv_pickF (v := (.bool (!(dec (BeatsOK xs31))))) rfl rfl rfl) ?_)
      refine rw_cons (op_pv (w0 rfl) rfl rfl (pv_move (v := (.bool (!(dec (BeatsOK xs31))))) rfl rfl) ?_)
      refine rw_split 32 rfl (fun hb56 => ?_) (fun hb56 => ?_)
      · -- yes
        replace hb56 := not_t hb56
        replace hb56 := dec_f hb56
        refine rw_cons (op_pass (w1n2 rfl rfl rfl rfl) rfl rfl ?_)
        refine rw_cons (op_pass (w1n2 rfl rfl rfl rfl) rfl rfl ?_)
        refine rw_cons (op_pass (w1n2 rfl rfl rfl rfl) rfl rfl ?_)
        refine rw_cons (op_pv (w0 rfl) rfl rfl (pv_pickT (v := (.bool true)) rfl rfl rfl) ?_)
        refine rw_nil (hK55 _ _ ?_)
        refine hK53 _ _ ?_
        refine cw_cond rfl (fun h57 => ?_) (fun h57 => ?_)
        · -- then
          clear h57
          refine cw_seq fun K58 hK59 => ?_
          refine cw_region fun K60 hK61 => ?_
          refine rw_cons (op_pv (w0 rfl) rfl rfl (pv_move (v := (.bool (dec (BeatsOK xs31)))) rfl rfl) ?_)
          refine rw_cons (op_pv (w0 rfl) rfl rfl (pv_move (v := (.bool (dec (BeatsOK xs31)))) rfl rfl) ?_)
          refine rw_cons (op_pv (w0 rfl) rfl rfl (pv_eqBs Try.underlying4 rfl rfl rfl) ?_)
          refine rw_cons (op_pv (w0 rfl) rfl rfl (pv_assign (v := (.bool true)) rfl rfl) ?_)
          refine rw_nil (hK61 _ _ ?_)
          refine hK59 _ _ ?_
          refine cw_ret ?_
          refine fin1 rfl ?_
          first
            | exact ⟨congrArg Value.bool (beq_self_eq_true _), hc⟩
            | exact absurd rfl ‹_ ≠ _›
            | exact ⟨rfl, hc⟩
        · -- else
          cases h57
      · -- no
        replace hb56 := not_f hb56
        replace hb56 := dec_t hb56
        refine rw_cons (op_pv (w1y rfl rfl rfl rfl) rfl rfl (pv_move (v := (.slice A29 xs31.length c30)) rfl rfl) ?_)
        refine rw_cons (op_pv (w1y rfl rfl rfl rfl) rfl rfl (pv_len Try.underlying23 rfl rfl) ?_)
        refine rw_cons (op_pv (w1y rfl rfl rfl rfl) rfl rfl (pv_eql rfl rfl rfl) ?_)
        refine rw_cons (op_pv (w0 rfl) rfl rfl (pv_pickF (v := (.bool (decide (((xs31.length : Int) : Int) = 0)))) rfl rfl rfl) ?_)
        refine rw_nil (hK55 _ _ ?_)
        refine hK53 _ _ ?_
        refine cw_cond rfl (fun h62 => ?_) (fun h62 => ?_)
        · -- then
          replace h62 := of_decide_eq_true h62
          refine cw_seq fun K63 hK64 => ?_
          refine cw_region fun K65 hK66 => ?_
          refine rw_cons (op_pv (w0 rfl) rfl rfl (pv_move (v := (.bool (dec (BeatsOK xs31)))) rfl rfl) ?_)
          refine rw_cons (op_pv (w0 rfl) rfl rfl (pv_move (v := (.bool (dec (BeatsOK xs31)))) rfl rfl) ?_)
          refine rw_cons (op_pv (w0 rfl) rfl rfl (pv_eqBs Try.underlying4 rfl rfl rfl) ?_)
          refine rw_cons (op_pv (w0 rfl) rfl rfl (pv_assign (v := (.bool true)) rfl rfl) ?_)
          refine rw_nil (hK66 _ _ ?_)
          refine hK64 _ _ ?_
          refine cw_ret ?_
          refine fin1 rfl ?_
          first
            | exact ⟨congrArg Value.bool (beq_self_eq_true _), hc⟩
            | exact absurd rfl ‹_ ≠ _›
            | exact ⟨rfl, hc⟩
        · -- else
          replace h62 := of_decide_eq_false h62
          refine cw_skip ?_
          refine hK51 _ _ ?_
          refine cw_seq fun K67 hK68 => ?_
          refine cw_region fun K69 hK70 => ?_
          refine rw_cons (op_pv (w0 rfl) rfl rfl (pv_move (v := (.slice A1 n1 c1)) rfl rfl) ?_)
          refine rw_cons (op_pv (w0 rfl) rfl rfl (pv_len Try.underlying22 rfl rfl) ?_)
          refine rw_cons (op_pv (w0 rfl) rfl rfl (pv_move (v := (.slice A29 xs31.length c30)) rfl rfl) ?_)
          refine rw_cons (op_pv (w0 rfl) rfl rfl (pv_len Try.underlying23 rfl rfl) ?_)
          refine rw_cons (op_pv (w0 rfl) rfl rfl (pv_rem rfl rfl rfl (by omega) (by omega)) ?_)
          have hq71 := Int.emod_nonneg (n1 : Int) (b := (xs31.length : Int)) (by omega); have hq72 := Int.emod_lt_of_pos (n1 : Int) (b := (xs31.length : Int)) (by omega)
          obtain ⟨d73, hd74⟩ : ∃ d : Nat, (n1 : Int) % (xs31.length : Int) = (d : Int) := ⟨((n1 : Int) % (xs31.length : Int)).toNat, by omega⟩
          rw [hd74]
          rw [hd74] at hq71
          rw [hd74] at hq72
          refine rw_cons (op_pv (w0 rfl) rfl rfl (pv_assign (v := (.int .i64 (d73 : Int))) rfl rfl) ?_)
          refine rw_nil (hK70 _ _ ?_)
          refine hK68 _ _ ?_
          refine cw_seq fun K75 hK76 => ?_
          refine cw_drawn (fun u => Ch [] w47 u) (.free 1 (.free 2 (.free 3 (.free 5 (.free 6 (.free 7 (.free 8 (.one 0 true (.one 4 true (.one 9 true (.free 10 (.done)))))))))))) (by kernel_rfl) (by kernel_rfl) (Ch.refl _ _).drew fun K80 hK81 => ?_
          obtain ⟨w77, hw_, hch78, hsz79⟩ : ∃ w1 : World, w1 = w47.drew ∧ Ch [] w47 w1 ∧ w1.heap.size = w47.heap.size := ⟨_, rfl, (Ch.refl _ _).drew, rfl⟩
          rw [← hw_]; clear hw_
          have hr82 : Ch [] w47 w77 := hch78.sub (fun s hs => by cases hs)
          have hR0_r := hR0
          have hR1_r := hR1
          have hO32_r := hO32
          have hsz83 := hch78.size
          replace hR0 := hR0.ch0 hch78
          replace hR1 := hR1.ch0 hch78
          replace hO32 := hO32.ch0 hch78
          replace hc := hc.step0 hch78
          refine tw_free rfl (w0 rfl) rfl rfl (fun u hu => (pv_move (v := (.slice A29 xs31.length c30)) rfl rfl : PV _ _ _ _) u) ?_
          refine tw_free rfl (w0 rfl) rfl rfl (fun u hu => (pv_move (v := (.int .i64 (d73 : Int))) rfl rfl : PV _ _ _ _) u) ?_
          refine tw_free rfl (w0 rfl) rfl rfl (fun u hu => (pv_upto Try.underlying23 T39 rfl rfl rfl (by omega) (by omega) : PV _ _ _ _) u) ?_
          have hR84 : RS encB 2 w77 w77.heap.size A29 d73 (xs31.take d73) := ((hO32.rs (fun _ => rfl))).upto (by omega)
          refine tw_free rfl (w0 rfl) rfl rfl (fun u hu => (pv_move (v := (.slice A29 xs31.length c30)) rfl rfl : PV _ _ _ _) u) ?_
          refine tw_free rfl (w0 rfl) rfl rfl (fun u hu => (pv_move (v := (.int .i64 (d73 : Int))) rfl rfl : PV _ _ _ _) u) ?_
          refine tw_free rfl (w0 rfl) rfl rfl (fun u hu => (pv_add rfl rfl rfl (by omega) (by omega) : PV _ _ _ _) u) ?_
          refine tw_free rfl (w0 rfl) rfl rfl (fun u hu => (pv_from Try.underlying23 T39 rfl rfl rfl (by omega) (by omega) : PV _ _ _ _) u) ?_
          have hR85 : RS encB 2 w77 w77.heap.size (if c30 = (d73 + 1) then A29 else (A29 : Option Addr).map (·.add ((d73 + 1) * 2))) (xs31.length - (d73 + 1)) (xs31.drop (d73 + 1)) := ((hO32.rs (fun _ => rfl))).from (by omega) (by omega)
          refine tw_one rfl (op_bslice [] Try.underlying23 T39 (w0 rfl) rfl rfl rfl rfl rfl (by simp [Value.cells]) (by decide) ?_)
          intro g87 w86 hg90 hg91 hK89 hch88
          have hO92 : Own encB 2 w86 w77.heap.size 39 (.slice (some ⟨g87, 0, none⟩) 0 0) ([] : List Bt) := Blk.own (xs := ([] : List Bt)) hK89 (by omega) rfl (by decide) rfl
          have hsz93 := hch88.size
          replace hR0 := hR0.ch0 hch88
          replace hR1 := hR1.ch0 hch88
          replace hO32 := hO32.ch0 hch88
          replace hR84 := hR84.ch0 hch88
          replace hR85 := hR85.ch0 hch88
          replace hc := hc.step0 hch88
          replace hr82 := hr82.step0 hch88
          have hub94 := hO92.lt
          refine ⟨fun _ => hr82, ?_⟩
          refine tw_one rfl (op_append Try.underlying23 T39 (fun _ => rfl) rfl (by decide) (fun _ => one_all rfl) (w0 rfl) rfl rfl rfl rfl rfl hO92 hR84 (by unfold maxLen; first | omega | (simp; omega)) (by first | omega | (simp; omega)) (by omega) ?_)
          rintro v95 w96 hO97 hch98 hs99
          replace hO97 : Own encB 2 w96 w77.heap.size 39 v95 (xs31.take d73) := hO97
          have hl100 : (xs31.take d73).length = 0 + d73 := by first | (have hl0 := hR84.len; omega) | (have hl0 := hR84.len; simp only [List.length_append, List.length_cons, List.length_nil] at hl0 ⊢; omega) | simp | rfl
          have hsz101 := hch98.size
          replace hR0 := hR0.ch hch98 (hO92.off.le (by omega))
          replace hR1 := hR1.ch hch98 (hO92.off.le (by omega))
          replace hO32 := hO32.ch hch98 (fun s hs hs2 => by first | (have h1 := hO32.off s hs; have h2 := hub94 s hs2; omega) | (have h1 := hub33 s hs; have h2 := hO92.off s hs2; omega) | (have h2 := hub94 s hs2; simp [obl, Value.ownBlock] at hs; omega) | (have h1 := hub33 s hs; simp [obl, Value.ownBlock] at hs2; omega))
          replace hR84 := hR84.ch hch98 (hO92.off.le (by omega))
          replace hR85 := hR85.ch hch98 (hO92.off.le (by omega))
          replace hc := (hO92.off.le (by omega)).step hc hch98
          replace hr82 := (hO92.off.le (by omega)).step hr82 hch98
          have hub102 := hO97.lt
          obtain ⟨A103, c104, hv105, hcap106, hcap107⟩ := hO97.form; subst hv105
          refine ⟨fun _ => hr82, ?_⟩
          refine tw_one rfl (op_append Try.underlying23 T39 (fun _ => rfl) rfl (by decide) (fun _ => one_all rfl) (w0 rfl) rfl rfl rfl rfl rfl hO97 hR85 (by unfold maxLen; first | omega | (simp; omega)) (by first | omega | (simp; omega)) (by omega) ?_)
          rintro v108 w109 hO110 hch111 hs112
          have hl113 : ((xs31.take d73) ++ (xs31.drop (d73 + 1))).length = (xs31.take d73).length + (xs31.length - (d73 + 1)) := by first | (have hl0 := hR85.len; omega) | (have hl0 := hR85.len; simp only [List.length_append, List.length_cons, List.length_nil] at hl0 ⊢; omega) | simp | rfl
          have hsz114 := hch111.size
          replace hR0 := hR0.ch hch111 (hO97.off.le (by omega))
          replace hR1 := hR1.ch hch111 (hO97.off.le (by omega))
          replace hO32 := hO32.ch hch111 (fun s hs hs2 => by first | (have h1 := hO32.off s hs; have h2 := hub102 s hs2; omega) | (have h1 := hub33 s hs; have h2 := hO97.off s hs2; omega) | (have h2 := hub102 s hs2; simp [obl, Value.ownBlock] at hs; omega) | (have h1 := hub33 s hs; simp [obl, Value.ownBlock] at hs2; omega))
          replace hR84 := hR84.ch hch111 (hO97.off.le (by omega))
          replace hR85 := hR85.ch hch111 (hO97.off.le (by omega))
          replace hc := (hO97.off.le (by omega)).step hc hch111
          replace hr82 := (hO97.off.le (by omega)).step hr82 hch111
          have hub115 := hO110.lt
          obtain ⟨A116, c117, hv118, hcap119, hcap120⟩ := hO110.form; subst hv118
          refine ⟨fun _ => hr82, ?_⟩
          refine tw_free rfl (w0 rfl) rfl rfl (fun u hu => (pv_assign (v := (.slice A116 ((xs31.take d73) ++ (xs31.drop (d73 + 1))).length c117)) rfl rfl : PV _ _ _ _) u) ?_
          clear hO32_r
          clear hR0_r
          clear hR1_r
          refine tw_done (hK81 _ _ ?_)
          refine hK76 _ _ ?_
          refine cw_seq fun K121 hK122 => ?_
          refine cw_drawn (fun u => Ch [] w109 u) (.free 1 (.free 2 (.free 3 (.free 4 (.free 6 (.free 7 (.free 8 (.one 0 true (.one 5 true (.one 9 true (.free 10 (.done)))))))))))) (by kernel_rfl) (by kernel_rfl) (Ch.refl _ _).drew fun K126 hK127 => ?_
          obtain ⟨w123, hw_, hch124, hsz125⟩ : ∃ w1 : World, w1 = w109.drew ∧ Ch [] w109 w1 ∧ w1.heap.size = w109.heap.size := ⟨_, rfl, (Ch.refl _ _).drew, rfl⟩
          rw [← hw_]; clear hw_
          have hr128 : Ch [] w109 w123 := hch124.sub (fun s hs => by cases hs)
          have hR0_r := hR0
          have hR1_r := hR1
          have hO32_r := hO32
          have hR84_r := hR84
          have hR85_r := hR85
          have hO110_r := hO110
          have hsz129 := hch124.size
          replace hR0 := hR0.ch0 hch124
          replace hR1 := hR1.ch0 hch124
          replace hO32 := hO32.ch0 hch124
          replace hR84 := hR84.ch0 hch124
          replace hR85 := hR85.ch0 hch124
          replace hO110 := hO110.ch0 hch124
          replace hc := hc.step0 hch124
          refine tw_free rfl (w0 rfl) rfl rfl (fun u hu => (pv_move (v := (.slice A29 xs31.length c30)) rfl rfl : PV _ _ _ _) u) ?_
          refine tw_free rfl (w0 rfl) rfl rfl (fun u hu => (pv_move (v := (.int .i64 (d73 : Int))) rfl rfl : PV _ _ _ _) u) ?_
          refine tw_free rfl (w0 rfl) rfl rfl (fun u hu => (pv_add rfl rfl rfl (by omega) (by omega) : PV _ _ _ _) u) ?_
          refine tw_free rfl (w0 rfl) rfl rfl (fun u hu => (pv_upto Try.underlying23 T39 rfl rfl rfl (by omega) (by omega) : PV _ _ _ _) u) ?_
          have hR130 : RS encB 2 w123 w123.heap.size A29 (d73 + 1) (xs31.take (d73 + 1)) := ((hO32.rs (fun _ => rfl))).upto (by omega)
          refine tw_free rfl (w0 rfl) rfl rfl (fun u hu => (pv_move (v := (.slice A29 xs31.length c30)) rfl rfl : PV _ _ _ _) u) ?_
          refine tw_free rfl (w0 rfl) rfl rfl (fun u hu => (pv_move (v := (.int .i64 (d73 : Int))) rfl rfl : PV _ _ _ _) u) ?_
          refine tw_free rfl (w0 rfl) rfl rfl (fun u hu => (pv_from Try.underlying23 T39 rfl rfl rfl (by omega) (by omega) : PV _ _ _ _) u) ?_
          have hR131 : RS encB 2 w123 w123.heap.size (if c30 = d73 then A29 else (A29 : Option Addr).map (·.add (d73 * 2))) (xs31.length - d73) (xs31.drop d73) := ((hO32.rs (fun _ => rfl))).from (by omega) (by omega)
          refine tw_one rfl (op_bslice [] Try.underlying23 T39 (w0 rfl) rfl rfl rfl rfl rfl (by simp [Value.cells]) (by decide) ?_)
          intro g133 w132 hg136 hg137 hK135 hch134
          have hO138 : Own encB 2 w132 w123.heap.size 39 (.slice (some ⟨g133, 0, none⟩) 0 0) ([] : List Bt) := Blk.own (xs := ([] : List Bt)) hK135 (by omega) rfl (by decide) rfl
          have hsz139 := hch134.size
          replace hR0 := hR0.ch0 hch134
          replace hR1 := hR1.ch0 hch134
          replace hO32 := hO32.ch0 hch134
          replace hR84 := hR84.ch0 hch134
          replace hR85 := hR85.ch0 hch134
          replace hO110 := hO110.ch0 hch134
          replace hR130 := hR130.ch0 hch134
          replace hR131 := hR131.ch0 hch134
          replace hc := hc.step0 hch134
          replace hr128 := hr128.step0 hch134
          have hub140 := hO138.lt
          refine ⟨fun _ => hr128, ?_⟩
          refine tw_one rfl (op_append Try.underlying23 T39 (fun _ => rfl) rfl (by decide) (fun _ => one_all rfl) (w0 rfl) rfl rfl rfl rfl rfl hO138 hR130 (by unfold maxLen; first | omega | (simp; omega)) (by first | omega | (simp; omega)) (by omega) ?_)
          rintro v141 w142 hO143 hch144 hs145
          replace hO143 : Own encB 2 w142 w123.heap.size 39 v141 (xs31.take (d73 + 1)) := hO143
          have hl146 : (xs31.take (d73 + 1)).length = 0 + (d73 + 1) := by first | (have hl0 := hR130.len; omega) | (have hl0 := hR130.len; simp only [List.length_append, List.length_cons, List.length_nil] at hl0 ⊢; omega) | simp | rfl
          have hsz147 := hch144.size
          replace hR0 := hR0.ch hch144 (hO138.off.le (by omega))
          replace hR1 := hR1.ch hch144 (hO138.off.le (by omega))
          replace hO32 := hO32.ch hch144 (fun s hs hs2 => by first | (have h1 := hO32.off s hs; have h2 := hub140 s hs2; omega) | (have h1 := hub33 s hs; have h2 := hO138.off s hs2; omega) | (have h2 := hub140 s hs2; simp [obl, Value.ownBlock] at hs; omega) | (have h1 := hub33 s hs; simp [obl, Value.ownBlock] at hs2; omega))
          replace hR84 := hR84.ch hch144 (hO138.off.le (by omega))
          replace hR85 := hR85.ch hch144 (hO138.off.le (by omega))
          replace hO110 := hO110.ch hch144 (fun s hs hs2 => by first | (have h1 := hO110.off s hs; have h2 := hub140 s hs2; omega) | (have h1 := hub115 s hs; have h2 := hO138.off s hs2; omega) | (have h2 := hub140 s hs2; simp [obl, Value.ownBlock] at hs; omega) | (have h1 := hub115 s hs; simp [obl, Value.ownBlock] at hs2; omega))
          replace hR130 := hR130.ch hch144 (hO138.off.le (by omega))
          replace hR131 := hR131.ch hch144 (hO138.off.le (by omega))
          replace hc := (hO138.off.le (by omega)).step hc hch144
          replace hr128 := (hO138.off.le (by omega)).step hr128 hch144
          have hub148 := hO143.lt
          obtain ⟨A149, c150, hv151, hcap152, hcap153⟩ := hO143.form; subst hv151
          refine ⟨fun _ => hr128, ?_⟩
          refine tw_one rfl (op_append Try.underlying23 T39 (fun _ => rfl) rfl (by decide) (fun _ => one_all rfl) (w0 rfl) rfl rfl rfl rfl rfl hO143 hR131 (by unfold maxLen; first | omega | (simp; omega)) (by first | omega | (simp; omega)) (by omega) ?_)
          rintro v154 w155 hO156 hch157 hs158
          have hl159 : ((xs31.take (d73 + 1)) ++ (xs31.drop d73)).length = (xs31.take (d73 + 1)).length + (xs31.length - d73) := by first | (have hl0 := hR131.len; omega) | (have hl0 := hR131.len; simp only [List.length_append, List.length_cons, List.length_nil] at hl0 ⊢; omega) | simp | rfl
          have hsz160 := hch157.size
          replace hR0 := hR0.ch hch157 (hO143.off.le (by omega))
          replace hR1 := hR1.ch hch157 (hO143.off.le (by omega))
          replace hO32 := hO32.ch hch157 (fun s hs hs2 => by first | (have h1 := hO32.off s hs; have h2 := hub148 s hs2; omega) | (have h1 := hub33 s hs; have h2 := hO143.off s hs2; omega) | (have h2 := hub148 s hs2; simp [obl, Value.ownBlock] at hs; omega) | (have h1 := hub33 s hs; simp [obl, Value.ownBlock] at hs2; omega))
          replace hR84 := hR84.ch hch157 (hO143.off.le (by omega))
          replace hR85 := hR85.ch hch157 (hO143.off.le (by omega))
          replace hO110 := hO110.ch hch157 (fun s hs hs2 => by first | (have h1 := hO110.off s hs; have h2 := hub148 s hs2; omega) | (have h1 := hub115 s hs; have h2 := hO143.off s hs2; omega) | (have h2 := hub148 s hs2; simp [obl, Value.ownBlock] at hs; omega) | (have h1 := hub115 s hs; simp [obl, Value.ownBlock] at hs2; omega))
          replace hR130 := hR130.ch hch157 (hO143.off.le (by omega))
          replace hR131 := hR131.ch hch157 (hO143.off.le (by omega))
          replace hc := (hO143.off.le (by omega)).step hc hch157
          replace hr128 := (hO143.off.le (by omega)).step hr128 hch157
          have hub161 := hO156.lt
          obtain ⟨A162, c163, hv164, hcap165, hcap166⟩ := hO156.form; subst hv164
          refine ⟨fun _ => hr128, ?_⟩
          refine tw_free rfl (w0 rfl) rfl rfl (fun u hu => (pv_assign (v := (.slice A162 ((xs31.take (d73 + 1)) ++ (xs31.drop d73)).length c163)) rfl rfl : PV _ _ _ _) u) ?_
          clear hO110_r
          clear hO32_r
          clear hR0_r
          clear hR1_r
          clear hR84_r
          clear hR85_r
          refine tw_done (hK127 _ _ ?_)
          refine hK122 _ _ ?_
          refine cw_seq fun K167 hK168 => ?_
          refine cw_region fun K169 hK170 => ?_
          refine rw_cons (op_pv (w0 rfl) rfl rfl (pv_move (v := (.slice A116 ((xs31.take d73) ++ (xs31.drop (d73 + 1))).length c117)) rfl rfl) ?_)
          refine rw_cons (op_call (w0 rfl) rfl rfl (rc_call C17 rfl rfl) (BeatsValid_i _ _ _ ((xs31.take d73) ++ (xs31.drop (d73 + 1))) _ (hO110.rs (fun _ => rfl)) (by omega)) ?_)
          rintro _ w171 ⟨rfl, hch172⟩
          have hsz173 := hch172.size
          replace hR0 := hR0.ch0 hch172
          replace hR1 := hR1.ch0 hch172
          replace hO32 := hO32.ch0 hch172
          replace hR84 := hR84.ch0 hch172
          replace hR85 := hR85.ch0 hch172
          replace hO110 := hO110.ch0 hch172
          replace hR130 := hR130.ch0 hch172
          replace hR131 := hR131.ch0 hch172
          replace hO156 := hO156.ch0 hch172
          replace hc := hc.step0 hch172
          refine rw_cons (op_pv (w0 rfl) rfl rfl (pv_move (v := (.bool (dec (BeatsOK ((xs31.take d73) ++ (xs31.drop (d73 + 1))))))) rfl rfl) ?_)
          refine rw_split 67 rfl (fun hb174 => ?_) (fun hb174 => ?_)
          · -- yes
            replace hb174 := dec_t hb174
            refine rw_cons (op_pv (w1y rfl rfl rfl rfl) rfl rfl (pv_move (v := (.slice A162 ((xs31.take (d73 + 1)) ++ (xs31.drop d73)).length c163)) rfl rfl) ?_)
            refine rw_cons (op_call (w1y rfl rfl rfl rfl) rfl rfl (rc_call C17 rfl rfl) (BeatsValid_i _ _ _ ((xs31.take (d73 + 1)) ++ (xs31.drop d73)) _ (hO156.rs (fun _ => rfl)) (by omega)) ?_)
            rintro _ w175 ⟨rfl, hch176⟩
            have hsz177 := hch176.size
            replace hR0 := hR0.ch0 hch176
            replace hR1 := hR1.ch0 hch176
            replace hO32 := hO32.ch0 hch176
            replace hR84 := hR84.ch0 hch176
            replace hR85 := hR85.ch0 hch176
            replace hO110 := hO110.ch0 hch176
            replace hR130 := hR130.ch0 hch176
            replace hR131 := hR131.ch0 hch176
            replace hO156 := hO156.ch0 hch176
            replace hc := hc.step0 hch176
            refine rw_cons (op_pv (w1y rfl rfl rfl rfl) rfl rfl (pv_not rfl rfl) ?_)
            refine rw_cons (op_pv (w0 rfl) rfl rfl (pv_pickT (v := (.bool (!(dec (BeatsOK ((xs31.take (d73 + 1)) ++ (xs31.drop d73))))))) rfl rfl rfl) ?_)
            refine rw_cons (op_pv (w0 rfl) rfl rfl (pv_assign (v := (.bool (!(dec (BeatsOK ((xs31.take (d73 + 1)) ++ (xs31.drop d73))))))) rfl rfl) ?_)
            refine rw_nil (hK170 _ _ ?_)
            refine hK168 _ _ ?_
            refine cw_ret ?_
            refine fin1 rfl ?_
            have hdl : d73 < xs31.length := by omega
            have hok : BeatsOK ((xs31.take d73) ++ (xs31.drop (d73 + 1))) := beats_without ‹BeatsOK xs31› (d := d73) (e := d73 + 1) (by omega) hdl
            have hbad : ¬BeatsOK ((xs31.take (d73 + 1)) ++ (xs31.drop d73)) := beats_twice (xs := xs31) (d := d73) (e := d73 + 1) (by omega) hdl
            first
              | exact absurd hok ‹¬ BeatsOK _›
              | exact ⟨congrArg Value.bool (by rw [dec_no hbad]; rfl), hc⟩
          · -- no
            replace hb174 := dec_f hb174
            refine rw_cons (op_pass (w1n1 rfl rfl rfl rfl) rfl rfl ?_)
            refine rw_cons (op_pass (w1n1 rfl rfl rfl rfl) rfl rfl ?_)
            refine rw_cons (op_pass (w1n1 rfl rfl rfl rfl) rfl rfl ?_)
            refine rw_cons (op_pv (w0 rfl) rfl rfl (pv_pickF (v := (.bool false)) rfl rfl rfl) ?_)
            refine rw_cons (op_pv (w0 rfl) rfl rfl (pv_assign (v := (.bool false)) rfl rfl) ?_)
            refine rw_nil (hK170 _ _ ?_)
            refine hK168 _ _ ?_
            refine cw_ret ?_
            refine fin1 rfl ?_
            have hdl : d73 < xs31.length := by omega
            have hok : BeatsOK ((xs31.take d73) ++ (xs31.drop (d73 + 1))) := beats_without ‹BeatsOK xs31› (d := d73) (e := d73 + 1) (by omega) hdl
            have hbad : ¬BeatsOK ((xs31.take (d73 + 1)) ++ (xs31.drop d73)) := beats_twice (xs := xs31) (d := d73) (e := d73 + 1) (by omega) hdl
            first
              | exact absurd hok ‹¬ BeatsOK _›
              | exact ⟨congrArg Value.bool (by rw [dec_no hbad]; rfl), hc⟩
end Go.Proofs.Ytnkjljjcionfiaa

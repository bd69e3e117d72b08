/-
  The walk of spec.BeatsDead, written by program: each line names the law of one operation. Conditions: those of the theorem.
-/
import Derived.Test.YtnkjljjcionfiaaProg
import Derived.Test.YtnkjljjcionfiaaBeats
import Derived.Test.YtnkjljjcionfiaaFspecl23Ok
import Derived.Test.YtnkjljjcionfiaaFspecl23Alive
import Derived.KernelRfl
namespace Go.Proofs.Ytnkjljjcionfiaa
open Go Go.RowKit
set_option linter.unusedVariables false
set_option linter.unusedSimpArgs false
namespace BeatsDead_sF
theorem T3 : TI Try.prog 3 false (.int .i64 0) 1 8 := TI.mk' Try.underlying3 rfl (by kernel_rfl)
theorem T39 : TI Try.prog 39 true (.agg #[.int .i64 0, .int .i64 0]) 2 16 := TI.mk' Try.underlying39 rfl (by kernel_rfl)
theorem F39_0 : FldOK Try.prog 39 0 0 := ⟨_, _, 0, Try.underlying39, rfl, rfl, by kernel_rfl⟩
theorem F39_1 : FldOK Try.prog 39 1 1 := ⟨_, _, 0, Try.underlying39, rfl, rfl, by kernel_rfl⟩
theorem C47 : Callable Try.prog 47 := ⟨_, Try.func47, by kernel_rfl, by kernel_rfl⟩
theorem C48 : Callable Try.prog 48 := ⟨_, Try.func48, by kernel_rfl, by kernel_rfl⟩
end BeatsDead_sF
open BeatsDead_sF in
set_option maxHeartbeats 4000000 in
theorem BeatsDead_s (Axs : Option Addr) (nxs cxs : Nat) (xs : List Bt) (now : Int) (wi : Int) (w : World) (hRxs : RS encB 2 w w.heap.size Axs nxs xs) (hNxs : nxs ≤ 1099511627776) :
    Fn Try.prog 29 [(.slice Axs nxs cxs), (.int .i64 now), (.int .i64 wi)] w fun v w' => ∃ A_0 c_0, v = .slice A_0 (srvV xs now wi false).length c_0 ∧ Own encI 1 w' w.heap.size 3 (.slice A_0 (srvV xs now wi false).length c_0) (srvV xs now wi false) ∧ Ch [] w w' := by
  have hlenxs := hRxs.len
  refine fn_of (n := 40) Try.func29 rfl rfl rfl rfl ?_
  have hc : Ch [] w w := Ch.refl _ _
  refine cw_seq fun K1 hK2 => ?_
  refine cw_region fun K3 hK4 => ?_
  refine rw_cons (op_pv (w0 rfl) rfl rfl (pv_assign (v := (.slice none 0 0)) rfl rfl) ?_)
  refine rw_nil (hK4 _ _ ?_)
  refine hK2 _ _ ?_
  refine cw_seq fun K5 hK6 => ?_
  refine cw_region fun K7 hK8 => ?_
  refine rw_cons (op_bslice [] Try.underlying34 T3 (w0 rfl) rfl rfl rfl rfl rfl (by simp [Value.cells]) (by decide) ?_)
  intro g10 w9 hg13 hg14 hK12 hch11
  have hO15 : Own encI 1 w9 w.heap.size 3 (.slice (some ⟨g10, 0, none⟩) 0 0) ([] : List Int) := Blk.own (xs := ([] : List Int)) hK12 (by omega) rfl (by decide) rfl
  have hsz16 := hch11.size
  replace hRxs := hRxs.ch0 hch11
  replace hc := hc.step0 hch11
  have hub17 := hO15.lt
  refine rw_cons (op_pv (w0 rfl) rfl rfl (pv_assign (v := (.slice (some ⟨g10, 0, none⟩) 0 0)) rfl rfl) ?_)
  refine rw_nil (hK8 _ _ ?_)
  refine hK6 _ _ ?_
  refine cw_seq fun K18 hK19 => ?_
  refine cw_seq fun K20 hK21 => ?_
  refine cw_region fun K22 hK23 => ?_
  refine rw_cons (op_pv (w0 rfl) rfl rfl (pv_assign (v := (.int .i64 0)) rfl rfl) ?_)
  refine rw_nil (hK23 _ _ ?_)
  refine hK21 _ _ ?_
  refine cw_block ?_
  refine cw_loop (σ := Nat × (Option Addr) × Nat) (fun ⟨k, Ao, co⟩ => [(7, (.slice Ao (srvL (xs.take k) now wi false).length co)), (8, (.int .i64 (k : Int))), (0, (.slice Axs nxs cxs)), (1, (.int .i64 now)), (2, (.int .i64 wi)), (6, (.slice none 0 0))]) (fun ⟨k, Ao, co⟩ W => (k ≤ nxs ∧ (0 < k → SrvOK xs now wi)) ∧ RS encB 2 W w.heap.size Axs nxs xs ∧ Own encI 1 W w.heap.size 3 (.slice Ao (srvL (xs.take k) now wi false).length co) (srvL (xs.take k) now wi false) ∧ Ch [] w W) (fun ⟨k, Ao, co⟩ => nxs - k) (0, (some ⟨g10, 0, none⟩), 0) ?_ ?_ ?_
  · exact ⟨rfl, rfl, rfl, rfl, rfl, rfl, trivial⟩
  · refine ⟨⟨Nat.zero_le _, fun h => by omega⟩, hRxs, (hO15.less (by omega)), hc⟩
  · rintro ⟨k, Ao, co⟩ J28 w24 ⟨⟨hk, hok⟩, hRxs, hOut, hc⟩ K25 hK26
    have hsz30 := hc.size
    have hubO := hOut.lt
    have hsl := srvL_le (xs.take k) now wi false; have htl : (xs.take k).length ≤ k := List.length_take_le _ _
    refine cw_seq fun K31 hK32 => ?_
    refine cw_seq fun K33 hK34 => ?_
    refine cw_region fun K35 hK36 => ?_
    refine rw_cons (op_pv (w0 rfl) rfl rfl (pv_move (v := (.int .i64 (k : Int))) rfl rfl) ?_)
    refine rw_cons (op_pv (w0 rfl) rfl rfl (pv_move (v := (.slice Axs nxs cxs)) rfl rfl) ?_)
    refine rw_cons (op_pv (w0 rfl) rfl rfl (pv_len Try.underlying23 rfl rfl) ?_)
    refine rw_cons (op_pv (w0 rfl) rfl rfl (pv_lss rfl rfl rfl) ?_)
    refine rw_cons (op_pv (w0 rfl) rfl rfl (pv_move (v := (.bool (decide ((k : Int) < (nxs : Int))))) rfl rfl) ?_)
    refine rw_split 14 rfl (fun hb37 => ?_) (fun hb37 => ?_)
    · -- yes
      replace hb37 := of_decide_eq_true hb37
      refine rw_cons (op_pv (w1y rfl rfl rfl rfl) rfl rfl (pv_move (v := (.slice Axs nxs cxs)) rfl rfl) ?_)
      refine rw_cons (op_pv (w1y rfl rfl rfl rfl) rfl rfl (pv_move (v := (.int .i64 now)) rfl rfl) ?_)
      refine rw_cons (op_pv (w1y rfl rfl rfl rfl) rfl rfl (pv_move (v := (.int .i64 wi)) rfl rfl) ?_)
      refine rw_cons (op_call (w1y rfl rfl rfl rfl) rfl rfl (rc_call C47 rfl rfl) (l23Ok_ok _ nxs _ xs now wi _ (hRxs.more (by omega)) (by omega)) ?_)
      rintro _ w38 ⟨rfl, hch39⟩
      have hsz40 := hch39.size
      replace hRxs := hRxs.ch0 hch39
      replace hOut := hOut.ch0 hch39
      replace hc := hc.step0 hch39
      refine rw_cons (op_pv (w0 rfl) rfl rfl (pv_pickT (v := (.bool (dec (SrvOK xs now wi)))) rfl rfl rfl) ?_)
      refine rw_nil (hK36 _ _ ?_)
      refine hK34 _ _ ?_
      refine cw_cond rfl (fun h41 => ?_) (fun h41 => ?_)
      · -- then
        replace h41 := dec_t h41
        refine cw_skip ?_
        refine hK32 _ _ ?_
        refine cw_seq fun K42 hK43 => ?_
        refine cw_block ?_
        refine cw_seq fun K44 hK45 => ?_
        have hok2 := (by assumption : SrvOK xs now wi)
        have hbk := (hok2.1.ok (j := k) (by omega)).2
        have hnw := hok2.2.1
        refine cw_region fun K46 hK47 => ?_
        refine rw_cons (op_pv (w0 rfl) rfl rfl (pv_move (v := (.slice Axs nxs cxs)) rfl rfl) ?_)
        refine rw_cons (op_pv (w0 rfl) rfl rfl (pv_move (v := (.int .i64 (k : Int))) rfl rfl) ?_)
        refine rw_cons (op_pv (w0 rfl) rfl rfl (pv_idx Try.underlying23 T39 rfl rfl rfl (hRxs.some (k := k) (by omega)) (by omega) (by omega)) ?_)
        refine rw_cons (op_pv (w0 rfl) rfl rfl (pv_fld F39_1 rfl rfl) ?_)
        refine rw_cons (op_lv (w0 rfl) rfl rfl (lv_load T3 rfl rfl (hRxs.cellE (k := k) (j := 1) (by omega) rfl)) ?_)
        refine rw_cons (op_pv (w0 rfl) rfl rfl (pv_move (v := (.int .i64 now)) rfl rfl) ?_)
        refine rw_cons (op_pv (w0 rfl) rfl rfl (pv_move (v := (.int .i64 wi)) rfl rfl) ?_)
        refine rw_cons (op_call (w0 rfl) rfl rfl (rc_call C48 rfl rfl) (l23Alive_ok (el xs k).a now wi _ (by omega) (by omega)) ?_)
        rintro _ w48 ⟨rfl, hch49⟩
        have hsz50 := hch49.size
        replace hRxs := hRxs.ch0 hch49
        replace hOut := hOut.ch0 hch49
        replace hc := hc.step0 hch49
        refine rw_cons (op_pv (w0 rfl) rfl rfl (pv_not rfl rfl) ?_)
        refine rw_nil (hK47 _ _ ?_)
        refine hK45 _ _ ?_
        refine cw_cond rfl (fun h51 => ?_) (fun h51 => ?_)
        · -- then
          replace h51 := not_t h51
          replace h51 := of_decide_eq_false h51
          refine cw_region fun K52 hK53 => ?_
          refine rw_cons (op_pv (w0 rfl) rfl rfl (pv_move (v := (.slice Ao (srvL (xs.take k) now wi false).length co)) rfl rfl) ?_)
          refine rw_cons (op_pv (w0 rfl) rfl rfl (pv_move (v := (.slice Axs nxs cxs)) rfl rfl) ?_)
          refine rw_cons (op_pv (w0 rfl) rfl rfl (pv_move (v := (.int .i64 (k : Int))) rfl rfl) ?_)
          refine rw_cons (op_pv (w0 rfl) rfl rfl (pv_idx Try.underlying23 T39 rfl rfl rfl (hRxs.some (k := k) (by omega)) (by omega) (by omega)) ?_)
          refine rw_cons (op_pv (w0 rfl) rfl rfl (pv_fld F39_0 rfl rfl) ?_)
          refine rw_cons (op_lv (w0 rfl) rfl rfl (lv_load T3 rfl rfl (hRxs.cellE (k := k) (j := 0) (by omega) rfl)) ?_)
          refine rw_cons (op_bslice [(.int .i64 (el xs k).s)] Try.underlying34 T3 (w0 rfl) rfl rfl rfl rfl rfl (by simp [Value.cells]) (by decide) ?_)
          intro g55 w54 hg58 hg59 hK57 hch56
          have hO60 : Own encI 1 w54 w48.heap.size 3 (.slice (some ⟨g55, 0, none⟩) 1 1) ([(el xs k).s] : List Int) := Blk.own (xs := ([(el xs k).s] : List Int)) hK57 (by omega) rfl (by decide) rfl
          have hsz61 := hch56.size
          replace hRxs := hRxs.ch0 hch56
          replace hOut := hOut.ch0 hch56
          replace hc := hc.step0 hch56
          have hub62 := hO60.lt
          refine rw_cons (op_append Try.underlying34 T3 (fun _ => rfl) rfl (by decide) (fun _ => one_all rfl) (w0 rfl) rfl rfl rfl rfl rfl hOut (hO60.rs (fun _ => rfl)) (by unfold maxLen; first | omega | (simp; omega)) (by first | omega | (simp; omega)) (by omega) ?_)
          rintro v63 w64 hO65 hch66 hs67
          have hl68 : ((srvL (xs.take k) now wi false) ++ ([(el xs k).s] : List Int)).length = (srvL (xs.take k) now wi false).length + 1 := by first | (have hl0 := (hO60.rs (fun _ => rfl)).len; omega) | (have hl0 := (hO60.rs (fun _ => rfl)).len; simp only [List.length_append, List.length_cons, List.length_nil] at hl0 ⊢; omega) | simp | rfl
          clear hO60
          have hsz69 := hch66.size
          replace hRxs := hRxs.ch hch66 (hOut.off.le (by omega))
          replace hc := (hOut.off.le (by omega)).step hc hch66
          have hub70 := hO65.lt
          obtain ⟨A71, c72, hv73, hcap74, hcap75⟩ := hO65.form; subst hv73
          refine rw_cons (op_pv (w0 rfl) rfl rfl (pv_assign (v := (.slice A71 ((srvL (xs.take k) now wi false) ++ ([(el xs k).s] : List Int)).length c72)) rfl rfl) ?_)
          refine rw_nil (hK53 _ _ ?_)
          refine hK43 _ _ ?_
          refine cw_region fun K76 hK77 => ?_
          refine rw_cons (op_pv (w0 rfl) rfl rfl (pv_move (v := (.int .i64 (k : Int))) rfl rfl) ?_)
          refine rw_cons (op_pv (w0 rfl) rfl rfl (pv_add rfl rfl rfl (by omega) (by omega)) ?_)
          refine rw_cons (op_pv (w0 rfl) rfl rfl (pv_assign (v := (.int .i64 ((k : Int) + 1))) rfl rfl) ?_)
          refine rw_nil (hK77 _ _ ?_)
          have hEQ78 : ((srvL (xs.take k) now wi false) ++ ([(el xs k).s] : List Int)) = srvL (xs.take (k + 1)) now wi false := by exact (srvL_yes xs now wi false k (by omega) (by unfold srvP; rw [decide_eq_false (by omega)]; rfl)).symm
          have hO79 := own_as hO65 hEQ78
          refine hK26 _ _ (k + 1, A71, c72) ⟨(sl_as hO65 hEQ78), (iv (by omega)), rfl, rfl, rfl, rfl, trivial⟩ ⟨?_, hRxs, hO79, hc⟩ ?_
          · exact ⟨by omega, fun _ => by assumption⟩
          · (first | omega | (simp only []; omega))
        · -- else
          replace h51 := not_f h51
          replace h51 := of_decide_eq_true h51
          refine cw_skip ?_
          refine hK43 _ _ ?_
          refine cw_region fun K80 hK81 => ?_
          refine rw_cons (op_pv (w0 rfl) rfl rfl (pv_move (v := (.int .i64 (k : Int))) rfl rfl) ?_)
          refine rw_cons (op_pv (w0 rfl) rfl rfl (pv_add rfl rfl rfl (by omega) (by omega)) ?_)
          refine rw_cons (op_pv (w0 rfl) rfl rfl (pv_assign (v := (.int .i64 ((k : Int) + 1))) rfl rfl) ?_)
          refine rw_nil (hK81 _ _ ?_)
          have hEQ82 : (srvL (xs.take k) now wi false) = srvL (xs.take (k + 1)) now wi false := by exact (srvL_no xs now wi false k (by omega) (by unfold srvP; rw [decide_eq_true (by assumption)]; rfl)).symm
          have hO83 := own_as hOut hEQ82
          refine hK26 _ _ (k + 1, Ao, co) ⟨(sl_as hOut hEQ82), (iv (by omega)), rfl, rfl, rfl, rfl, trivial⟩ ⟨?_, hRxs, hO83, hc⟩ ?_
          · exact ⟨by omega, fun _ => by assumption⟩
          · (first | omega | (simp only []; omega))
      · -- else
        replace h41 := dec_f h41
        refine cw_exit ?_
        refine hK19 _ _ ?_
        refine cw_seq fun K84 hK85 => ?_
        refine cw_region fun K86 hK87 => ?_
        refine rw_cons (op_pv (w0 rfl) rfl rfl (pv_move (v := (.slice Ao (srvL (xs.take k) now wi false).length co)) rfl rfl) ?_)
        refine rw_cons (op_pv (w0 rfl) rfl rfl (pv_assign (v := (.slice Ao (srvL (xs.take k) now wi false).length co)) rfl rfl) ?_)
        refine rw_nil (hK87 _ _ ?_)
        refine hK85 _ _ ?_
        refine cw_ret ?_
        refine fin1 rfl ?_
        have he_0 : (srvL (xs.take k) now wi false) = srvV xs now wi false := (by
          rcases Classical.em (SrvOK xs now wi) with h9 | h9
          · rw [srvV_yes h9, el_take_all xs k (by first | omega | exact absurd h9 (by assumption))]
          · rw [srvV_no h9]; have : k = 0 := by { rcases Nat.eq_zero_or_pos k with h8 | h8; exact h8; exact absurd (hok h8) h9 }
            subst this; rfl)
        exact ⟨_, _, (sl_as hOut he_0), own_as (hOut.less (by omega)) he_0, hc⟩
    · -- no
      replace hb37 := of_decide_eq_false hb37
      refine rw_cons (op_pass (w1n1 rfl rfl rfl rfl) rfl rfl ?_)
      refine rw_cons (op_pass (w1n1 rfl rfl rfl rfl) rfl rfl ?_)
      refine rw_cons (op_pass (w1n1 rfl rfl rfl rfl) rfl rfl ?_)
      refine rw_cons (op_pass (w1n1 rfl rfl rfl rfl) rfl rfl ?_)
      refine rw_cons (op_pv (w0 rfl) rfl rfl (pv_pickF (v := (.bool false)) rfl rfl rfl) ?_)
      refine rw_nil (hK36 _ _ ?_)
      refine hK34 _ _ ?_
      refine cw_cond rfl (fun h88 => ?_) (fun h88 => ?_)
      · -- then
        cases h88
      · -- else
        clear h88
        refine cw_exit ?_
        refine hK19 _ _ ?_
        refine cw_seq fun K89 hK90 => ?_
        refine cw_region fun K91 hK92 => ?_
        refine rw_cons (op_pv (w0 rfl) rfl rfl (pv_move (v := (.slice Ao (srvL (xs.take k) now wi false).length co)) rfl rfl) ?_)
        refine rw_cons (op_pv (w0 rfl) rfl rfl (pv_assign (v := (.slice Ao (srvL (xs.take k) now wi false).length co)) rfl rfl) ?_)
        refine rw_nil (hK92 _ _ ?_)
        refine hK90 _ _ ?_
        refine cw_ret ?_
        refine fin1 rfl ?_
        have he_0 : (srvL (xs.take k) now wi false) = srvV xs now wi false := (by
          rcases Classical.em (SrvOK xs now wi) with h9 | h9
          · rw [srvV_yes h9, el_take_all xs k (by first | omega | exact absurd h9 (by assumption))]
          · rw [srvV_no h9]; have : k = 0 := by { rcases Nat.eq_zero_or_pos k with h8 | h8; exact h8; exact absurd (hok h8) h9 }
            subst this; rfl)
        exact ⟨_, _, (sl_as hOut he_0), own_as (hOut.less (by omega)) he_0, hc⟩
end Go.Proofs.Ytnkjljjcionfiaa

/-
  The walk of impl.allSums, written by program: each line names the law of one operation. Conditions: those of the theorem.
-/
import Derived.Test.YthgnnpafieifmaaProg
import Derived.Test.YthgnnpafieifmaaSums
import Derived.Test.YthgnnpafieifmaaFimplpartSum
import Derived.Test.YthgnnpafieifmaaFimplcutPartsint
import Derived.KernelRfl
namespace Go.Proofs.Ythgnnpafieifmaa
open Go Go.RowKit
set_option linter.unusedVariables false
set_option linter.unusedSimpArgs false
namespace allSums_okF
theorem T3 : TI Try.prog 3 false (.int .i64 0) 1 8 := TI.mk' Try.underlying3 rfl (by kernel_rfl)
theorem T22 : TI Try.prog 22 false (.slice none 0 0) 1 24 := TI.mk' Try.underlying22 rfl (by kernel_rfl)
theorem C44 : Callable Try.prog 44 := ⟨_, Try.func44, by kernel_rfl, by kernel_rfl⟩
theorem C45 : Callable Try.prog 45 := ⟨_, Try.func45, by kernel_rfl, by kernel_rfl⟩
end allSums_okF
open allSums_okF in
set_option maxHeartbeats 4000000 in
theorem allSums_ok (Axs : Option Addr) (nxs cxs : Nat) (xs : List Int) (w : World) (hRxs : RS encI 1 w w.heap.size Axs nxs xs) (hnxs : nxs ≤ cxs) (hNxs : nxs ≤ 1099511627776) (hb : ∀ j, j < nxs → -1000000 ≤ el xs j ∧ el xs j ≤ 1000000) :
    Fn Try.prog 38 [(.slice Axs nxs cxs)] w fun v w' => ∃ A_0 c_0, v = .slice A_0 (sumsL xs).length c_0 ∧ Own encI 1 w' w.heap.size 3 (.slice A_0 (sumsL xs).length c_0) (sumsL xs) ∧ Ch [] w w' := by
  have hlenxs := hRxs.len
  refine fn_of (n := 21) Try.func38 rfl rfl rfl rfl ?_
  have hc : Ch [] w w := Ch.refl _ _
  refine cw_seq fun K1 hK2 => ?_
  refine cw_region fun K3 hK4 => ?_
  refine rw_cons (op_pv (w0 rfl) rfl rfl (pv_assign (v := (.slice none 0 0)) rfl rfl) ?_)
  refine rw_nil (hK4 _ _ ?_)
  refine hK2 _ _ ?_
  refine cw_seq fun K5 hK6 => ?_
  refine cw_region fun K7 hK8 => ?_
  refine rw_cons (op_bslice [] Try.underlying22 T3 (w0 rfl) rfl rfl rfl rfl rfl (by simp [Value.cells]) (by decide) ?_)
  intro g10 w9 hg13 hg14 hK12 hch11
  have hO15 : Own encI 1 w9 w.heap.size 3 (.slice (some ⟨g10, 0, none⟩) 0 0) ([] : List Int) := Blk.own (xs := ([] : List Int)) hK12 (by omega) rfl (by decide) rfl
  have hsz16 := hch11.size
  replace hRxs := hRxs.ch0 hch11
  replace hc := hc.step0 hch11
  have hub17 := hO15.lt
  refine rw_cons (op_pv (w0 rfl) rfl rfl (pv_assign (v := (.slice (some ⟨g10, 0, none⟩) 0 0)) rfl rfl) ?_)
  refine rw_nil (hK8 _ _ ?_)
  refine hK6 _ _ ?_
  refine cw_seq fun K18 hK19 => ?_
  refine cw_seq fun K20 hK21 => ?_
  refine cw_region fun K22 hK23 => ?_
  refine rw_cons (op_pv (w0 rfl) rfl rfl (pv_move (v := (.slice Axs nxs cxs)) rfl rfl) ?_)
  refine rw_cons (op_call (w0 rfl) rfl rfl (rc_call C44 rfl rfl) (cutParts_ok _ nxs _ xs _ _ hRxs (by omega) (by omega) (by omega)) ?_)
  rintro _ w24 ⟨A25, c26, hs27, rfl, hO28, hhl29, hD30, hch31⟩
  have hsz32 := hch31.size
  replace hRxs := hRxs.ch0 hch31
  replace hO15 := hO15.ch0 hch31
  replace hc := hc.step0 hch31
  have hub33 := hO28.lt
  have hcap34 : hs27.length ≤ c26 := by obtain ⟨_, _, hv, h1, _⟩ := hO28.form; injection hv with _ _ h3; omega
  refine rw_cons (op_pv (w0 rfl) rfl rfl (pv_len Try.underlying50 rfl rfl) ?_)
  refine rw_cons (op_pv (w0 rfl) rfl rfl (pv_move (v := (.int .i64 0)) rfl rfl) ?_)
  refine rw_nil (hK23 _ _ ?_)
  refine hK21 _ _ ?_
  refine cw_block ?_
  refine cw_loop (σ := Nat × (Option Addr) × Nat) (fun ⟨k, Ao, co⟩ => [(3, (.slice Ao (sumsTo xs k).length co)), (10, (.int .i64 (k : Int))), (2, (.slice none 0 0)), (8, (.slice A25 hs27.length c26)), (9, (.int .i64 (hs27.length : Int)))]) (fun ⟨k, Ao, co⟩ W => (k ≤ hs27.length) ∧ RS encI 1 W w.heap.size Axs nxs xs ∧ Own encH 1 W w9.heap.size 22 (.slice A25 hs27.length c26) hs27 ∧ (∀ i, i < hs27.length → RS encI 1 W w.heap.size (el hs27 i).A (el hs27 i).n (part xs i)) ∧ Own encI 1 W w.heap.size 3 (.slice Ao (sumsTo xs k).length co) (sumsTo xs k) ∧ Ch [] w W ∧ w9.heap.size ≤ W.heap.size ∧ (∀ s ∈ obl (.slice A25 hs27.length c26), s ∉ obl (.slice Ao (sumsTo xs k).length co))) (fun ⟨k, Ao, co⟩ => hs27.length - k) (0, (some ⟨g10, 0, none⟩), 0) ?_ ?_ ?_
  · exact ⟨rfl, rfl, rfl, rfl, rfl, trivial⟩
  · refine ⟨Nat.zero_le _, hRxs, hO28, hD30, (hO15.less (by omega)), hc, (by omega), (fun s hs hs2 => by first | (have h1 := hO15.off s hs; have h2 := hub33 s hs2; omega) | (have h1 := hO28.off s hs; have h2 := hub17 s hs2; omega) | (have h1 := hub17 s hs; have h2 := hO28.off s hs2; omega) | (have h1 := hub33 s hs; have h2 := hO15.off s hs2; omega) | (simp [obl, Value.ownBlock] at hs; done) | (simp [obl, Value.ownBlock] at hs2; done))⟩
  · rintro ⟨k, Ao, co⟩ J41 w35 ⟨hk, hRxs, hO28, hD30, hOut, hc, hmono36, hdj37⟩ K38 hK39
    have hsz43 := hc.size
    have hub33 := hO28.lt
    have hubO := hOut.lt
    have hpl := part_len xs k; have hsl := sumsTo_len xs k; have hnp : nparts xs = (xs.length + 3) / 4 := rfl
    refine cw_seq fun K44 hK45 => ?_
    refine cw_region fun K46 hK47 => ?_
    refine rw_cons (op_pv (w0 rfl) rfl rfl (pv_lss rfl rfl rfl) ?_)
    refine rw_nil (hK47 _ _ ?_)
    refine hK45 _ _ ?_
    refine cw_seq fun K48 hK49 => ?_
    refine cw_cond rfl (fun h50 => ?_) (fun h50 => ?_)
    · -- then
      replace h50 := of_decide_eq_true h50
      refine cw_skip ?_
      refine hK49 _ _ ?_
      refine cw_seq fun K51 hK52 => ?_
      refine cw_block ?_
      refine cw_seq fun K53 hK54 => ?_
      refine cw_region fun K55 hK56 => ?_
      refine rw_cons (op_pv (w0 rfl) rfl rfl (pv_idx Try.underlying50 T22 rfl rfl rfl ((hO28.rs (fun _ => rfl)).some (k := k) (by omega)) (by omega) (by omega)) ?_)
      have hR57 : RS encI 1 w35 w.heap.size (el hs27 k).A (el hs27 k).n (part xs k) := hD30 k (by omega)
      have hln58 := hR57.len
      refine rw_cons (op_lv (w0 rfl) rfl rfl (lv_load T22 rfl rfl ((hO28.rs (fun _ => rfl)).cell0 (k := k) (by omega) rfl)) ?_)
      refine rw_cons (op_pv (w0 rfl) rfl rfl (pv_assign (v := (.slice (el hs27 k).A (el hs27 k).n (el hs27 k).c)) rfl rfl) ?_)
      refine rw_nil (hK56 _ _ ?_)
      refine hK54 _ _ ?_
      refine cw_region fun K59 hK60 => ?_
      refine rw_cons (op_pv (w0 rfl) rfl rfl (pv_move (v := (.slice Ao (sumsTo xs k).length co)) rfl rfl) ?_)
      refine rw_cons (op_pv (w0 rfl) rfl rfl (pv_move (v := (.slice (el hs27 k).A (el hs27 k).n (el hs27 k).c)) rfl rfl) ?_)
      refine rw_cons (op_call (w0 rfl) rfl rfl (rc_call C45 rfl rfl) (partSum_i _ (el hs27 k).n _ (part xs k) _ (hR57.more (by omega)) (by omega) (fun j hj => part_bd hb k j (by omega))) ?_)
      rintro _ w61 ⟨rfl, hch62⟩
      have hsz63 := hch62.size
      replace hRxs := hRxs.ch0 hch62
      replace hO28 := hO28.ch0 hch62
      replace hD30 : ∀ i, i < hs27.length → RS encI 1 w61 w.heap.size (el hs27 i).A (el hs27 i).n (part xs i) := fun i hi => (hD30 i hi).ch0 hch62
      replace hOut := hOut.ch0 hch62
      replace hR57 := hR57.ch0 hch62
      replace hc := hc.step0 hch62
      refine rw_cons (op_bslice [(.int .i64 (partSum (part xs k)))] Try.underlying22 T3 (w0 rfl) rfl rfl rfl rfl rfl (by simp [Value.cells]) (by decide) ?_)
      intro g65 w64 hg68 hg69 hK67 hch66
      have hO70 : Own encI 1 w64 w61.heap.size 3 (.slice (some ⟨g65, 0, none⟩) 1 1) ([partSum (part xs k)] : List Int) := Blk.own (xs := ([partSum (part xs k)] : List Int)) hK67 (by omega) rfl (by decide) rfl
      have hsz71 := hch66.size
      replace hRxs := hRxs.ch0 hch66
      replace hO28 := hO28.ch0 hch66
      replace hD30 : ∀ i, i < hs27.length → RS encI 1 w64 w.heap.size (el hs27 i).A (el hs27 i).n (part xs i) := fun i hi => (hD30 i hi).ch0 hch66
      replace hOut := hOut.ch0 hch66
      replace hR57 := hR57.ch0 hch66
      replace hc := hc.step0 hch66
      have hub72 := hO70.lt
      refine rw_cons (op_append Try.underlying22 T3 (fun _ => rfl) rfl (by decide) (fun _ => one_all rfl) (w0 rfl) rfl rfl rfl rfl rfl hOut (hO70.rs (fun _ => rfl)) (by unfold maxLen; first | omega | (simp; omega)) (by first | omega | (simp; omega)) (by omega) ?_)
      rintro v73 w74 hO75 hch76 hs77
      have hl78 : ((sumsTo xs k) ++ ([partSum (part xs k)] : List Int)).length = (sumsTo xs k).length + 1 := by first | (have hl0 := (hO70.rs (fun _ => rfl)).len; omega) | (have hl0 := (hO70.rs (fun _ => rfl)).len; simp only [List.length_append, List.length_cons, List.length_nil] at hl0 ⊢; omega) | simp | rfl
      clear hO70
      have hsz80 := hch76.size
      replace hRxs := hRxs.ch hch76 (hOut.off.le (by omega))
      replace hO28 := hO28.ch hch76 (dj_as hdj37)
      replace hD30 : ∀ i, i < hs27.length → RS encI 1 w74 w.heap.size (el hs27 i).A (el hs27 i).n (part xs i) := fun i hi => (hD30 i hi).ch hch76 (hOut.off.le (by omega))
      replace hR57 := hR57.ch hch76 (hOut.off.le (by omega))
      replace hc := (hOut.off.le (by omega)).step hc hch76
      have hub81 := hO75.lt
      obtain ⟨A82, c83, hv84, hcap85, hcap86⟩ := hO75.form; subst hv84
      have hdj79 : ∀ s ∈ obl (.slice A82 ((sumsTo xs k) ++ ([partSum (part xs k)] : List Int)).length c83), s ∉ obl (.slice A25 hs27.length c26) := dj_new hs77 (dj_sw hdj37) (fun s hs => by have := hub33 s hs; omega)
      refine rw_cons (op_pv (w0 rfl) rfl rfl (pv_assign (v := (.slice A82 ((sumsTo xs k) ++ ([partSum (part xs k)] : List Int)).length c83)) rfl rfl) ?_)
      refine rw_nil (hK60 _ _ ?_)
      refine hK52 _ _ ?_
      refine cw_region fun K87 hK88 => ?_
      refine rw_cons (op_pv (w0 rfl) rfl rfl (pv_add rfl rfl rfl (by omega) (by omega)) ?_)
      refine rw_cons (op_pv (w0 rfl) rfl rfl (pv_move (v := (.int .i64 ((k : Int) + 1))) rfl rfl) ?_)
      refine rw_nil (hK88 _ _ ?_)
      have hEQ89 : ((sumsTo xs k) ++ ([partSum (part xs k)] : List Int)) = sumsTo xs (k + 1) := by rw [sumsTo_succ]
      have hO90 := own_as hO75 hEQ89
      refine hK39 _ _ (k + 1, A82, c83) ⟨(sl_as hO75 hEQ89), (iv (by omega)), rfl, rfl, rfl, trivial⟩ ⟨?_, hRxs, hO28, hD30, hO90, hc, (by omega), (dj_sw hdj79)⟩ ?_
      · omega
      · (first | omega | (simp only []; omega))
    · -- else
      replace h50 := of_decide_eq_false h50
      refine cw_exit ?_
      refine hK19 _ _ ?_
      refine cw_seq fun K91 hK92 => ?_
      refine cw_region fun K93 hK94 => ?_
      refine rw_cons (op_pv (w0 rfl) rfl rfl (pv_move (v := (.slice Ao (sumsTo xs k).length co)) rfl rfl) ?_)
      refine rw_cons (op_pv (w0 rfl) rfl rfl (pv_assign (v := (.slice Ao (sumsTo xs k).length co)) rfl rfl) ?_)
      refine rw_nil (hK94 _ _ ?_)
      refine hK92 _ _ ?_
      refine cw_ret ?_
      refine fin1 rfl ?_
      have he_0 : (sumsTo xs k) = sumsL xs := (by unfold sumsL; rw [show nparts xs = k by omega])
      exact ⟨_, _, (sl_as hOut he_0), own_as (hOut.less (by omega)) he_0, hc⟩
end Go.Proofs.Ythgnnpafieifmaa

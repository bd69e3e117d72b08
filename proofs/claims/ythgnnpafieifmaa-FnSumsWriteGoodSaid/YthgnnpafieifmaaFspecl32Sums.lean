/-
  The walk of spec.l32Sums, written by program: each line names the law of one operation. Conditions: those of the theorem.
-/
import Derived.Test.YthgnnpafieifmaaProg
import Derived.Test.YthgnnpafieifmaaSums
import Derived.Test.YthgnnpafieifmaaFspecl32Sum
import Derived.KernelRfl
namespace Go.Proofs.Ythgnnpafieifmaa
open Go Go.RowKit
set_option linter.unusedVariables false
set_option linter.unusedSimpArgs false
namespace l32Sums_okF
theorem T3 : TI Try.prog 3 false (.int .i64 0) 1 8 := TI.mk' Try.underlying3 rfl (by kernel_rfl)
theorem C43 : Callable Try.prog 43 := ⟨_, Try.func43, by kernel_rfl, by kernel_rfl⟩
end l32Sums_okF
open l32Sums_okF in
set_option maxHeartbeats 4000000 in
theorem l32Sums_ok (Axs : Option Addr) (nxs cxs : Nat) (xs : List Int) (w : World) (hRxs : RS encI 1 w w.heap.size Axs nxs xs) (hnxs : nxs ≤ cxs) (hNxs : nxs ≤ 1099511627776) (hb : ∀ j, j < nxs → -1000000 ≤ el xs j ∧ el xs j ≤ 1000000) :
    Fn Try.prog 37 [(.slice Axs nxs cxs)] w fun v w' => ∃ A_0 c_0, v = .slice A_0 (sumsL xs).length c_0 ∧ Own encI 1 w' w.heap.size 3 (.slice A_0 (sumsL xs).length c_0) (sumsL xs) ∧ Ch [] w w' := by
  have hlenxs := hRxs.len
  refine fn_of (n := 25) Try.func37 rfl rfl rfl rfl ?_
  have hc : Ch [] w w := Ch.refl _ _
  refine cw_seq fun K1 hK2 => ?_
  refine cw_region fun K3 hK4 => ?_
  refine rw_cons (op_pv (w0 rfl) rfl rfl (pv_assign (v := (.slice none 0 0)) rfl rfl) ?_)
  refine rw_nil (hK4 _ _ ?_)
  refine hK2 _ _ ?_
  refine cw_seq fun K5 hK6 => ?_
  refine cw_region fun K7 hK8 => ?_
  refine rw_cons (op_bslice [] Try.underlying22 T3 (w0 rfl) rfl rfl rfl rfl rfl (by simp [Value.cells]) (by decide) ?_)
  intro g10 w9 hg13 hg14 hK12 hch11
  have hO15 : Own encI 1 w9 w.heap.size 3 (.slice (some ⟨g10, 0, none⟩) 0 0) ([] : List Int) := Blk.own (xs := ([] : List Int)) hK12 (by omega) rfl (by decide) rfl
  have hsz16 := hch11.size
  replace hRxs := hRxs.ch0 hch11
  replace hc := hc.step0 hch11
  have hub17 := hO15.lt
  refine rw_cons (op_pv (w0 rfl) rfl rfl (pv_assign (v := (.slice (some ⟨g10, 0, none⟩) 0 0)) rfl rfl) ?_)
  refine rw_nil (hK8 _ _ ?_)
  refine hK6 _ _ ?_
  refine cw_seq fun K18 hK19 => ?_
  refine cw_seq fun K20 hK21 => ?_
  refine cw_region fun K22 hK23 => ?_
  refine rw_cons (op_pv (w0 rfl) rfl rfl (pv_assign (v := (.int .i64 0)) rfl rfl) ?_)
  refine rw_nil (hK23 _ _ ?_)
  refine hK21 _ _ ?_
  refine cw_block ?_
  refine cw_loop (σ := Nat × (Option Addr) × Nat) (fun ⟨k, Ao, co⟩ => [(3, (.slice Ao (sumsTo xs k).length co)), (4, (.int .i64 ((4 * k : Nat) : Int))), (0, (.slice Axs nxs cxs)), (2, (.slice none 0 0))]) (fun ⟨k, Ao, co⟩ W => (4 * k ≤ nxs + 3) ∧ RS encI 1 W w.heap.size Axs nxs xs ∧ Own encI 1 W w.heap.size 3 (.slice Ao (sumsTo xs k).length co) (sumsTo xs k) ∧ Ch [] w W) (fun ⟨k, Ao, co⟩ => nxs + 4 - 4 * k) (0, (some ⟨g10, 0, none⟩), 0) ?_ ?_ ?_
  · exact ⟨rfl, rfl, rfl, rfl, trivial⟩
  · refine ⟨by omega, hRxs, (hO15.less (by omega)), hc⟩
  · rintro ⟨k, Ao, co⟩ J28 w24 ⟨hk, hRxs, hOut, hc⟩ K25 hK26
    have hsz30 := hc.size
    have hubO := hOut.lt
    have hsl := sumsTo_len xs k
    refine cw_seq fun K31 hK32 => ?_
    refine cw_seq fun K33 hK34 => ?_
    refine cw_region fun K35 hK36 => ?_
    refine rw_cons (op_pv (w0 rfl) rfl rfl (pv_move (v := (.int .i64 ((4 * k : Nat) : Int))) rfl rfl) ?_)
    refine rw_cons (op_pv (w0 rfl) rfl rfl (pv_move (v := (.slice Axs nxs cxs)) rfl rfl) ?_)
    refine rw_cons (op_pv (w0 rfl) rfl rfl (pv_len Try.underlying22 rfl rfl) ?_)
    refine rw_cons (op_pv (w0 rfl) rfl rfl (pv_lss rfl rfl rfl) ?_)
    refine rw_nil (hK36 _ _ ?_)
    refine hK34 _ _ ?_
    refine cw_cond rfl (fun h37 => ?_) (fun h37 => ?_)
    · -- then
      replace h37 := of_decide_eq_true h37
      refine cw_skip ?_
      refine hK32 _ _ ?_
      refine cw_seq fun K38 hK39 => ?_
      refine cw_block ?_
      refine cw_region fun K40 hK41 => ?_
      refine rw_cons (op_pv (w0 rfl) rfl rfl (pv_move (v := (.slice Ao (sumsTo xs k).length co)) rfl rfl) ?_)
      refine rw_cons (op_pv (w0 rfl) rfl rfl (pv_move (v := (.slice Axs nxs cxs)) rfl rfl) ?_)
      refine rw_cons (op_pv (w0 rfl) rfl rfl (pv_move (v := (.int .i64 ((4 * k : Nat) : Int))) rfl rfl) ?_)
      refine rw_cons (op_pv (w0 rfl) rfl rfl (pv_move (v := (.int .i64 ((4 * k : Nat) : Int))) rfl rfl) ?_)
      refine rw_cons (op_pv (w0 rfl) rfl rfl (pv_add rfl rfl rfl (by omega) (by omega)) ?_)
      refine rw_cons (op_pv (w0 rfl) rfl rfl (pv_move (v := (.slice Axs nxs cxs)) rfl rfl) ?_)
      refine rw_cons (op_pv (w0 rfl) rfl rfl (pv_len Try.underlying22 rfl rfl) ?_)
      refine rw_cons (op_pv (w0 rfl) rfl rfl (pv_min rfl rfl rfl) ?_)
      refine rw_cons (op_pv (w0 rfl) rfl rfl (pv_mid Try.underlying22 T3 rfl rfl rfl rfl (by omega) (by omega) (by omega)) ?_)
      have hR42 : RS encI 1 w24 w.heap.size Axs (min (((4 * k : Nat) : Int) + 4) (nxs : Int)).toNat (xs.take (min (((4 * k : Nat) : Int) + 4) (nxs : Int)).toNat) := (hRxs).upto (by omega)
      have hR43 : RS encI 1 w24 w.heap.size (if cxs = (4 * k) then Axs else (Axs : Option Addr).map (·.add ((4 * k) * 1))) ((min (((4 * k : Nat) : Int) + 4) (nxs : Int)).toNat - (4 * k)) ((xs.take (min (((4 * k : Nat) : Int) + 4) (nxs : Int)).toNat).drop (4 * k)) := (hR42).from (by omega) (by omega)
      refine rw_cons (op_call (w0 rfl) rfl rfl (rc_call C43 rfl rfl) (partSum_s _ ((min (((4 * k : Nat) : Int) + 4) (nxs : Int)).toNat - (4 * k)) _ ((xs.take (min (((4 * k : Nat) : Int) + 4) (nxs : Int)).toNat).drop (4 * k)) _ (hR43.more (by omega)) (by omega) (by rw [part_mid xs k _ (by omega)]; exact fun j hj => part_bd hb k j (by omega))) ?_)
      rintro _ w44 ⟨rfl, hch45⟩
      have hsz46 := hch45.size
      replace hRxs := hRxs.ch0 hch45
      replace hOut := hOut.ch0 hch45
      replace hR42 := hR42.ch0 hch45
      replace hR43 := hR43.ch0 hch45
      replace hc := hc.step0 hch45
      refine rw_cons (op_bslice [(.int .i64 (partSum ((xs.take (min (((4 * k : Nat) : Int) + 4) (nxs : Int)).toNat).drop (4 * k))))] Try.underlying22 T3 (w0 rfl) rfl rfl rfl rfl rfl (by simp [Value.cells]) (by decide) ?_)
      intro g48 w47 hg51 hg52 hK50 hch49
      have hO53 : Own encI 1 w47 w44.heap.size 3 (.slice (some ⟨g48, 0, none⟩) 1 1) ([partSum ((xs.take (min (((4 * k : Nat) : Int) + 4) (nxs : Int)).toNat).drop (4 * k))] : List Int) := Blk.own (xs := ([partSum ((xs.take (min (((4 * k : Nat) : Int) + 4) (nxs : Int)).toNat).drop (4 * k))] : List Int)) hK50 (by omega) rfl (by decide) rfl
      have hsz54 := hch49.size
      replace hRxs := hRxs.ch0 hch49
      replace hOut := hOut.ch0 hch49
      replace hR42 := hR42.ch0 hch49
      replace hR43 := hR43.ch0 hch49
      replace hc := hc.step0 hch49
      have hub55 := hO53.lt
      refine rw_cons (op_append Try.underlying22 T3 (fun _ => rfl) rfl (by decide) (fun _ => one_all rfl) (w0 rfl) rfl rfl rfl rfl rfl hOut (hO53.rs (fun _ => rfl)) (by unfold maxLen; first | omega | (simp; omega)) (by first | omega | (simp; omega)) (by omega) ?_)
      rintro v56 w57 hO58 hch59 hs60
      have hl61 : ((sumsTo xs k) ++ ([partSum ((xs.take (min (((4 * k : Nat) : Int) + 4) (nxs : Int)).toNat).drop (4 * k))] : List Int)).length = (sumsTo xs k).length + 1 := by first | (have hl0 := (hO53.rs (fun _ => rfl)).len; omega) | (have hl0 := (hO53.rs (fun _ => rfl)).len; simp only [List.length_append, List.length_cons, List.length_nil] at hl0 ⊢; omega) | simp | rfl
      clear hO53
      have hsz62 := hch59.size
      replace hRxs := hRxs.ch hch59 (hOut.off.le (by omega))
      replace hR42 := hR42.ch hch59 (hOut.off.le (by omega))
      replace hR43 := hR43.ch hch59 (hOut.off.le (by omega))
      replace hc := (hOut.off.le (by omega)).step hc hch59
      have hub63 := hO58.lt
      obtain ⟨A64, c65, hv66, hcap67, hcap68⟩ := hO58.form; subst hv66
      refine rw_cons (op_pv (w0 rfl) rfl rfl (pv_assign (v := (.slice A64 ((sumsTo xs k) ++ ([partSum ((xs.take (min (((4 * k : Nat) : Int) + 4) (nxs : Int)).toNat).drop (4 * k))] : List Int)).length c65)) rfl rfl) ?_)
      refine rw_nil (hK41 _ _ ?_)
      refine hK39 _ _ ?_
      refine cw_region fun K69 hK70 => ?_
      refine rw_cons (op_pv (w0 rfl) rfl rfl (pv_move (v := (.int .i64 ((4 * k : Nat) : Int))) rfl rfl) ?_)
      refine rw_cons (op_pv (w0 rfl) rfl rfl (pv_add rfl rfl rfl (by omega) (by omega)) ?_)
      refine rw_cons (op_pv (w0 rfl) rfl rfl (pv_assign (v := (.int .i64 (((4 * k : Nat) : Int) + 4))) rfl rfl) ?_)
      refine rw_nil (hK70 _ _ ?_)
      have hEQ71 : ((sumsTo xs k) ++ ([partSum ((xs.take (min (((4 * k : Nat) : Int) + 4) (nxs : Int)).toNat).drop (4 * k))] : List Int)) = sumsTo xs (k + 1) := by rw [sumsTo_succ, part_mid xs k _ (by omega)]
      have hO72 := own_as hO58 hEQ71
      refine hK26 _ _ (k + 1, A64, c65) ⟨(sl_as hO58 hEQ71), (iv (by omega)), rfl, rfl, trivial⟩ ⟨?_, hRxs, hO72, hc⟩ ?_
      · omega
      · (first | omega | (simp only []; omega))
    · -- else
      replace h37 := of_decide_eq_false h37
      refine cw_exit ?_
      refine hK19 _ _ ?_
      refine cw_seq fun K73 hK74 => ?_
      refine cw_region fun K75 hK76 => ?_
      refine rw_cons (op_pv (w0 rfl) rfl rfl (pv_move (v := (.slice Ao (sumsTo xs k).length co)) rfl rfl) ?_)
      refine rw_cons (op_pv (w0 rfl) rfl rfl (pv_assign (v := (.slice Ao (sumsTo xs k).length co)) rfl rfl) ?_)
      refine rw_nil (hK76 _ _ ?_)
      refine hK74 _ _ ?_
      refine cw_ret ?_
      refine fin1 rfl ?_
      have he_0 : (sumsTo xs k) = sumsL xs := (by unfold sumsL; rw [show nparts xs = k by unfold nparts; omega])
      exact ⟨_, _, (sl_as hOut he_0), own_as (hOut.less (by omega)) he_0, hc⟩
end Go.Proofs.Ythgnnpafieifmaa

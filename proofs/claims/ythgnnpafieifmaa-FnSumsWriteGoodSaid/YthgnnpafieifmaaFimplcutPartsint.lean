/-
  The walk of impl.cutParts[int], written by program: each line names the law of one operation. Conditions: those of the theorem.
-/
import Derived.Test.YthgnnpafieifmaaProg
import Derived.Test.YthgnnpafieifmaaSums
import Derived.KernelRfl
namespace Go.Proofs.Ythgnnpafieifmaa
open Go Go.RowKit
set_option linter.unusedVariables false
set_option linter.unusedSimpArgs false
namespace cutParts_okF
theorem T3 : TI Try.prog 3 false (.int .i64 0) 1 8 := TI.mk' Try.underlying3 rfl (by kernel_rfl)
theorem T22 : TI Try.prog 22 false (.slice none 0 0) 1 24 := TI.mk' Try.underlying22 rfl (by kernel_rfl)
end cutParts_okF
open cutParts_okF in
set_option maxHeartbeats 4000000 in
theorem cutParts_ok (A : Option Addr) (n c : Nat) (xs : List Int) (B : Nat) (w : World) (hR : RS encI 1 w B A n xs) (hB : B ≤ w.heap.size) (hcap : n ≤ c) (hn : n ≤ 1099511627776) :
    Fn Try.prog 44 [(.slice A n c), (.int .i64 4)] w fun v w' => ∃ A_0 c_0 hs, v = .slice A_0 hs.length c_0 ∧ Own encH 1 w' w.heap.size 22 (.slice A_0 hs.length c_0) hs ∧ hs.length = nparts xs ∧ (∀ i, i < hs.length → RS encI 1 w' B (el hs i).A (el hs i).n (part xs i)) ∧ Ch [] w w' := by
  have hlen := hR.len
  refine fn_of (n := 24) Try.func44 rfl rfl rfl rfl ?_
  have hc : Ch [] w w := Ch.refl _ _
  refine cw_seq fun K1 hK2 => ?_
  refine cw_region fun K3 hK4 => ?_
  refine rw_cons (op_pv (w0 rfl) rfl rfl (pv_assign (v := (.slice none 0 0)) rfl rfl) ?_)
  refine rw_nil (hK4 _ _ ?_)
  refine hK2 _ _ ?_
  refine cw_seq fun K5 hK6 => ?_
  refine cw_region fun K7 hK8 => ?_
  refine rw_cons (op_pv (w0 rfl) rfl rfl (pv_assign (v := (.slice none 0 0)) rfl rfl) ?_)
  refine rw_nil (hK8 _ _ ?_)
  refine hK6 _ _ ?_
  refine cw_seq fun K9 hK10 => ?_
  refine cw_block ?_
  refine cw_loop (σ := Nat × (Option Addr) × Nat × (Option Addr) × Nat × (List Hd)) (fun ⟨k, A0, c0, Ao, co, hs⟩ => [(0, (.slice A0 (n - 4 * k) c0)), (5, (.slice Ao hs.length co)), (1, (.int .i64 4)), (4, (.slice none 0 0))]) (fun ⟨k, A0, c0, Ao, co, hs⟩ W => (hs.length = k ∧ 4 * k ≤ n + 3 ∧ n - 4 * k ≤ c0) ∧ Own encH 1 W w.heap.size 22 (.slice Ao hs.length co) hs ∧ (∀ i, i < hs.length → RS encI 1 W B (el hs i).A (el hs i).n (part xs i)) ∧ RS encI 1 W B A0 (n - 4 * k) (xs.drop (4 * k)) ∧ Ch [] w W) (fun ⟨k, A0, c0, Ao, co, hs⟩ => n - 4 * k) (0, A, c, none, 0, []) ?_ ?_ ?_
  · exact ⟨rfl, rfl, rfl, rfl, trivial⟩
  · refine ⟨⟨rfl, by omega, by omega⟩, (Own.nil _ _ _ _ _), (fun i hi => by simp at hi), hR, hc⟩
  · rintro ⟨k, A0, c0, Ao, co, hs⟩ J15 w11 ⟨⟨hhl, hk, hc0⟩, hOut, hD, hR0, hc⟩ K12 hK13
    have hsz17 := hc.size
    have hubO := hOut.lt
    refine cw_seq fun K18 hK19 => ?_
    refine cw_seq fun K20 hK21 => ?_
    refine cw_region fun K22 hK23 => ?_
    refine rw_cons (op_pv (w0 rfl) rfl rfl (pv_move (v := (.slice A0 (n - 4 * k) c0)) rfl rfl) ?_)
    refine rw_cons (op_pv (w0 rfl) rfl rfl (pv_len Try.underlying22 rfl rfl) ?_)
    refine rw_cons (op_pv (w0 rfl) rfl rfl (pv_gtr rfl rfl rfl) ?_)
    refine rw_nil (hK23 _ _ ?_)
    refine hK21 _ _ ?_
    refine cw_cond rfl (fun h24 => ?_) (fun h24 => ?_)
    · -- then
      replace h24 := of_decide_eq_true h24
      refine cw_skip ?_
      refine hK19 _ _ ?_
      refine cw_block ?_
      refine cw_seq fun K25 hK26 => ?_
      refine cw_region fun K27 hK28 => ?_
      refine rw_cons (op_pv (w0 rfl) rfl rfl (pv_move (v := (.int .i64 4)) rfl rfl) ?_)
      refine rw_cons (op_pv (w0 rfl) rfl rfl (pv_move (v := (.slice A0 (n - 4 * k) c0)) rfl rfl) ?_)
      refine rw_cons (op_pv (w0 rfl) rfl rfl (pv_len Try.underlying22 rfl rfl) ?_)
      refine rw_cons (op_pv (w0 rfl) rfl rfl (pv_min rfl rfl rfl) ?_)
      refine rw_cons (op_pv (w0 rfl) rfl rfl (pv_assign (v := (.int .i64 (min 4 (((n - 4 * k) : Nat) : Int)))) rfl rfl) ?_)
      refine rw_nil (hK28 _ _ ?_)
      refine hK26 _ _ ?_
      refine cw_seq fun K29 hK30 => ?_
      refine cw_region fun K31 hK32 => ?_
      refine rw_cons (op_pv (w0 rfl) rfl rfl (pv_move (v := (.slice Ao hs.length co)) rfl rfl) ?_)
      refine rw_cons (op_pv (w0 rfl) rfl rfl (pv_move (v := (.slice A0 (n - 4 * k) c0)) rfl rfl) ?_)
      refine rw_cons (op_pv (w0 rfl) rfl rfl (pv_move (v := (.int .i64 (min 4 (((n - 4 * k) : Nat) : Int)))) rfl rfl) ?_)
      refine rw_cons (op_pv (w0 rfl) rfl rfl (pv_upto Try.underlying22 T3 rfl rfl rfl (by omega) (by omega)) ?_)
      have hR33 : RS encI 1 w11 B A0 (min 4 (((n - 4 * k) : Nat) : Int)).toNat ((xs.drop (4 * k)).take (min 4 (((n - 4 * k) : Nat) : Int)).toNat) := (hR0).upto (by omega)
      refine rw_cons (op_bslice [(.slice A0 (min 4 (((n - 4 * k) : Nat) : Int)).toNat c0)] Try.underlying50 T22 (w0 rfl) rfl rfl rfl rfl rfl (by simp [Value.cells]) (by decide) ?_)
      intro g35 w34 hg38 hg39 hK37 hch36
      have hO40 : Own encH 1 w34 w11.heap.size 22 (.slice (some ⟨g35, 0, none⟩) 1 1) ([⟨A0, (min 4 (((n - 4 * k) : Nat) : Int)).toNat, c0⟩] : List Hd) := Blk.own (xs := ([⟨A0, (min 4 (((n - 4 * k) : Nat) : Int)).toNat, c0⟩] : List Hd)) hK37 (by omega) rfl (by decide) rfl
      have hsz41 := hch36.size
      replace hOut := hOut.ch0 hch36
      replace hD : ∀ i, i < hs.length → RS encI 1 w34 B (el hs i).A (el hs i).n (part xs i) := fun i hi => (hD i hi).ch0 hch36
      replace hR0 := hR0.ch0 hch36
      replace hR33 := hR33.ch0 hch36
      replace hc := hc.step0 hch36
      have hub42 := hO40.lt
      refine rw_cons (op_append Try.underlying50 T22 (fun _ => rfl) rfl (by decide) (fun _ => one_all rfl) (w0 rfl) rfl rfl rfl rfl rfl hOut (hO40.rs (fun _ => rfl)) (by unfold maxLen; first | omega | (simp; omega)) (by first | omega | (simp; omega)) (by omega) ?_)
      rintro v43 w44 hO45 hch46 hs47
      have hl48 : (hs ++ ([⟨A0, (min 4 (((n - 4 * k) : Nat) : Int)).toNat, c0⟩] : List Hd)).length = hs.length + 1 := by first | (have hl0 := (hO40.rs (fun _ => rfl)).len; omega) | (have hl0 := (hO40.rs (fun _ => rfl)).len; simp only [List.length_append, List.length_cons, List.length_nil] at hl0 ⊢; omega) | simp | rfl
      clear hO40
      have hsz49 := hch46.size
      replace hD : ∀ i, i < hs.length → RS encI 1 w44 B (el hs i).A (el hs i).n (part xs i) := fun i hi => (hD i hi).ch hch46 (hOut.off.le (by omega))
      replace hR0 := hR0.ch hch46 (hOut.off.le (by omega))
      replace hR33 := hR33.ch hch46 (hOut.off.le (by omega))
      replace hc := (hOut.off.le (by omega)).step hc hch46
      have hub50 := hO45.lt
      obtain ⟨A51, c52, hv53, hcap54, hcap55⟩ := hO45.form; subst hv53
      refine rw_cons (op_pv (w0 rfl) rfl rfl (pv_assign (v := (.slice A51 (hs ++ ([⟨A0, (min 4 (((n - 4 * k) : Nat) : Int)).toNat, c0⟩] : List Hd)).length c52)) rfl rfl) ?_)
      refine rw_nil (hK32 _ _ ?_)
      refine hK30 _ _ ?_
      refine cw_region fun K56 hK57 => ?_
      refine rw_cons (op_pv (w0 rfl) rfl rfl (pv_move (v := (.slice A0 (n - 4 * k) c0)) rfl rfl) ?_)
      refine rw_cons (op_pv (w0 rfl) rfl rfl (pv_move (v := (.int .i64 (min 4 (((n - 4 * k) : Nat) : Int)))) rfl rfl) ?_)
      refine rw_cons (op_pv (w0 rfl) rfl rfl (pv_from Try.underlying22 T3 rfl rfl rfl (by omega) (by omega)) ?_)
      have hR58 : RS encI 1 w44 B (if c0 = (min 4 (((n - 4 * k) : Nat) : Int)).toNat then A0 else (A0 : Option Addr).map (·.add ((min 4 (((n - 4 * k) : Nat) : Int)).toNat * 1))) ((n - 4 * k) - (min 4 (((n - 4 * k) : Nat) : Int)).toNat) ((xs.drop (4 * k)).drop (min 4 (((n - 4 * k) : Nat) : Int)).toNat) := (hR0).from (by omega) (by omega)
      refine rw_cons (op_pv (w0 rfl) rfl rfl (pv_assign (v := (.slice (if c0 = (min 4 (((n - 4 * k) : Nat) : Int)).toNat then A0 else (A0 : Option Addr).map (·.add ((min 4 (((n - 4 * k) : Nat) : Int)).toNat * 1))) ((n - 4 * k) - (min 4 (((n - 4 * k) : Nat) : Int)).toNat) (c0 - (min 4 (((n - 4 * k) : Nat) : Int)).toNat))) rfl rfl) ?_)
      refine rw_nil (hK57 _ _ ?_)
      have hm9 : (min 4 (((n - 4 * k) : Nat) : Int)).toNat = min 4 (xs.length - 4 * k) := by omega
      have hD9 : ∀ i, i < (hs ++ ([⟨A0, (min 4 (((n - 4 * k) : Nat) : Int)).toNat, c0⟩] : List Hd)).length → RS encI 1 w44 B (el (hs ++ ([⟨A0, (min 4 (((n - 4 * k) : Nat) : Int)).toNat, c0⟩] : List Hd)) i).A (el (hs ++ ([⟨A0, (min 4 (((n - 4 * k) : Nat) : Int)).toNat, c0⟩] : List Hd)) i).n (part xs i) := by
        intro i hi
        rw [List.length_append, List.length_singleton] at hi
        rw [el_app1]
        by_cases hik : i < hs.length
        · rw [if_pos hik]; exact hD i hik
        · rw [if_neg hik]
          obtain rfl : k = i := by omega
          rw [if_pos (by omega)]
          have h9 := hR0.upto (m := (min 4 (((n - 4 * k) : Nat) : Int)).toNat) (by omega)
          rw [part_head xs k _ hm9] at h9
          exact h9
      have hR9 := hR58
      rw [drop_parts xs k _ hm9, show n - 4 * k - (min 4 (((n - 4 * k) : Nat) : Int)).toNat = n - 4 * (k + 1) by omega] at hR9
      refine hK13 _ _ (k + 1, (if c0 = (min 4 (((n - 4 * k) : Nat) : Int)).toNat then A0 else (A0 : Option Addr).map (·.add ((min 4 (((n - 4 * k) : Nat) : Int)).toNat * 1))), (c0 - (min 4 (((n - 4 * k) : Nat) : Int)).toNat), A51, c52, (hs ++ ([⟨A0, (min 4 (((n - 4 * k) : Nat) : Int)).toNat, c0⟩] : List Hd))) ⟨(sln (by omega)), rfl, rfl, rfl, trivial⟩ ⟨?_, hO45, hD9, hR9, hc⟩ ?_
      · exact ⟨by simp [hhl], by omega, by omega⟩
      · (first | omega | (simp only []; omega))
    · -- else
      replace h24 := of_decide_eq_false h24
      refine cw_exit ?_
      refine hK10 _ _ ?_
      refine cw_seq fun K60 hK61 => ?_
      refine cw_region fun K62 hK63 => ?_
      refine rw_cons (op_pv (w0 rfl) rfl rfl (pv_move (v := (.slice Ao hs.length co)) rfl rfl) ?_)
      refine rw_cons (op_pv (w0 rfl) rfl rfl (pv_assign (v := (.slice Ao hs.length co)) rfl rfl) ?_)
      refine rw_nil (hK63 _ _ ?_)
      refine hK61 _ _ ?_
      refine cw_ret ?_
      refine fin1 rfl ?_
      exact ⟨_, _, hs, rfl, hOut.less (by omega), by unfold nparts; omega, hD, hc⟩
end Go.Proofs.Ythgnnpafieifmaa

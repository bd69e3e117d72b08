/-
  The walk of spec.l2Empty, written by program: each line names the law of one operation. Conditions: those of the theorem.
-/
import Derived.Test.YtdnncgapbjnfoaaProg
import Derived.Test.YtdnncgapbjnfoaaNode
import Derived.KernelRfl
namespace Go.Proofs.Ytdnncgapbjnfoaa
open Go Go.RowKit
set_option linter.unusedVariables false
set_option linter.unusedSimpArgs false
namespace l2Empty_okF
theorem T3 : TI Try.prog 3 false (.int .i64 0) 1 8 := TI.mk' Try.underlying3 rfl (by kernel_rfl)
end l2Empty_okF
open l2Empty_okF in
set_option maxHeartbeats 4000000 in
theorem l2Empty_ok  (w : World)  :
    Fn Try.prog 37 [] w fun v w' => ∃ A_0 c_0, v = .slice A_0 (empty5).length c_0 ∧ Own encI 1 w' w.heap.size 3 (.slice A_0 (empty5).length c_0) (empty5) ∧ Ch [] w w' := by
  refine fn_of (n := 12) Try.func37 rfl rfl rfl rfl ?_
  have hc : Ch [] w w := Ch.refl _ _
  refine cw_seq fun K1 hK2 => ?_
  refine cw_region fun K3 hK4 => ?_
  refine rw_cons (op_pv (w0 rfl) rfl rfl (pv_assign (v := (.slice none 0 0)) rfl rfl) ?_)
  refine rw_nil (hK4 _ _ ?_)
  refine hK2 _ _ ?_
  refine cw_seq fun K5 hK6 => ?_
  refine cw_region fun K7 hK8 => ?_
  refine rw_cons (op_bslice [] Try.underlying42 T3 (w0 rfl) rfl rfl rfl rfl rfl (by simp [Value.cells]) (by decide) ?_)
  intro g10 w9 hg13 hg14 hK12 hch11
  have hO15 : Own encI 1 w9 w.heap.size 3 (.slice (some ⟨g10, 0, none⟩) 0 0) ([] : List Int) := Blk.own (xs := ([] : List Int)) hK12 (by omega) rfl (by decide) rfl
  have hsz16 := hch11.size
  replace hc := hc.step0 hch11
  have hub17 := hO15.lt
  refine rw_cons (op_pv (w0 rfl) rfl rfl (pv_assign (v := (.slice (some ⟨g10, 0, none⟩) 0 0)) rfl rfl) ?_)
  refine rw_nil (hK8 _ _ ?_)
  refine hK6 _ _ ?_
  refine cw_seq fun K18 hK19 => ?_
  refine cw_seq fun K20 hK21 => ?_
  refine cw_region fun K22 hK23 => ?_
  refine rw_cons (op_pv (w0 rfl) rfl rfl (pv_assign (v := (.int .i64 0)) rfl rfl) ?_)
  refine rw_nil (hK23 _ _ ?_)
  refine hK21 _ _ ?_
  refine cw_block ?_
  refine cw_loop (σ := Nat × (Option Addr) × Nat) (fun ⟨k, Ao, co⟩ => [(1, (.slice Ao (List.replicate k (-1 : Int)).length co)), (2, (.int .i64 (k : Int))), (0, (.slice none 0 0))]) (fun ⟨k, Ao, co⟩ W => (k ≤ 5) ∧ Own encI 1 W w.heap.size 3 (.slice Ao (List.replicate k (-1 : Int)).length co) (List.replicate k (-1 : Int)) ∧ Ch [] w W) (fun ⟨k, Ao, co⟩ => 5 - k) (0, (some ⟨g10, 0, none⟩), 0) ?_ ?_ ?_
  · exact ⟨rfl, rfl, rfl, trivial⟩
  · refine ⟨Nat.zero_le _, (hO15.less (by omega)), hc⟩
  · rintro ⟨k, Ao, co⟩ J28 w24 ⟨hk, hOut, hc⟩ K25 hK26
    have hsz30 := hc.size
    have hubO := hOut.lt
    have hrl : (List.replicate k (-1 : Int)).length = k := List.length_replicate ..
    refine cw_seq fun K31 hK32 => ?_
    refine cw_seq fun K33 hK34 => ?_
    refine cw_region fun K35 hK36 => ?_
    refine rw_cons (op_pv (w0 rfl) rfl rfl (pv_move (v := (.int .i64 (k : Int))) rfl rfl) ?_)
    refine rw_cons (op_pv (w0 rfl) rfl rfl (pv_lss rfl rfl rfl) ?_)
    refine rw_nil (hK36 _ _ ?_)
    refine hK34 _ _ ?_
    refine cw_cond rfl (fun h37 => ?_) (fun h37 => ?_)
    · -- then
      replace h37 := of_decide_eq_true h37
      refine cw_skip ?_
      refine hK32 _ _ ?_
      refine cw_seq fun K38 hK39 => ?_
      refine cw_block ?_
      refine cw_region fun K40 hK41 => ?_
      refine rw_cons (op_pv (w0 rfl) rfl rfl (pv_move (v := (.slice Ao (List.replicate k (-1 : Int)).length co)) rfl rfl) ?_)
      refine rw_cons (op_bslice [(.int .i64 (-1))] Try.underlying42 T3 (w0 rfl) rfl rfl rfl rfl rfl (by simp [Value.cells]) (by decide) ?_)
      intro g43 w42 hg46 hg47 hK45 hch44
      have hO48 : Own encI 1 w42 w24.heap.size 3 (.slice (some ⟨g43, 0, none⟩) 1 1) ([-1] : List Int) := Blk.own (xs := ([-1] : List Int)) hK45 (by omega) rfl (by decide) rfl
      have hsz49 := hch44.size
      replace hOut := hOut.ch0 hch44
      replace hc := hc.step0 hch44
      have hub50 := hO48.lt
      refine rw_cons (op_append Try.underlying42 T3 (fun _ => rfl) rfl (by decide) (fun _ => one_all rfl) (w0 rfl) rfl rfl rfl rfl rfl hOut (hO48.rs (fun _ => rfl)) (by unfold maxLen; first | omega | (simp; omega)) (by first | omega | (simp; omega)) (by omega) ?_)
      rintro v51 w52 hO53 hch54 hs55
      have hl56 : ((List.replicate k (-1 : Int)) ++ ([-1] : List Int)).length = (List.replicate k (-1 : Int)).length + 1 := by first | (have hl0 := (hO48.rs (fun _ => rfl)).len; omega) | (have hl0 := (hO48.rs (fun _ => rfl)).len; simp only [List.length_append, List.length_cons, List.length_nil] at hl0 ⊢; omega) | (simp; omega; done) | simp | rfl
      clear hO48
      have hsz57 := hch54.size
      replace hc := (hOut.off.le (by omega)).step hc hch54
      have hub58 := hO53.lt
      obtain ⟨A59, c60, hv61, hcap62, hcap63⟩ := hO53.form; subst hv61
      refine rw_cons (op_pv (w0 rfl) rfl rfl (pv_assign (v := (.slice A59 ((List.replicate k (-1 : Int)) ++ ([-1] : List Int)).length c60)) rfl rfl) ?_)
      refine rw_nil (hK41 _ _ ?_)
      refine hK39 _ _ ?_
      refine cw_region fun K64 hK65 => ?_
      refine rw_cons (op_pv (w0 rfl) rfl rfl (pv_move (v := (.int .i64 (k : Int))) rfl rfl) ?_)
      refine rw_cons (op_pv (w0 rfl) rfl rfl (pv_add rfl rfl rfl (by omega) (by omega)) ?_)
      refine rw_cons (op_pv (w0 rfl) rfl rfl (pv_assign (v := (.int .i64 ((k : Int) + 1))) rfl rfl) ?_)
      refine rw_nil (hK65 _ _ ?_)
      have hEQ66 : ((List.replicate k (-1 : Int)) ++ ([-1] : List Int)) = List.replicate (k + 1) (-1 : Int) := by exact neg_step k
      have hO67 := own_as hO53 hEQ66
      refine hK26 _ _ (k + 1, A59, c60) ⟨(sl_as hO53 hEQ66), (iv (by omega)), rfl, trivial⟩ ⟨?_, hO67, hc⟩ ?_
      · omega
      · (first | omega | (simp only []; omega))
    · -- else
      replace h37 := of_decide_eq_false h37
      refine cw_exit ?_
      refine hK19 _ _ ?_
      refine cw_seq fun K68 hK69 => ?_
      refine cw_region fun K70 hK71 => ?_
      refine rw_cons (op_pv (w0 rfl) rfl rfl (pv_move (v := (.slice Ao (List.replicate k (-1 : Int)).length co)) rfl rfl) ?_)
      refine rw_cons (op_pv (w0 rfl) rfl rfl (pv_assign (v := (.slice Ao (List.replicate k (-1 : Int)).length co)) rfl rfl) ?_)
      refine rw_nil (hK71 _ _ ?_)
      refine hK69 _ _ ?_
      refine cw_ret ?_
      refine fin1 rfl ?_
      have he_0 : (List.replicate k (-1 : Int)) = empty5 := neg_all (by omega)
      exact ⟨_, _, (sl_as hOut he_0), own_as (hOut.less (by omega)) he_0, hc⟩
end Go.Proofs.Ytdnncgapbjnfoaa

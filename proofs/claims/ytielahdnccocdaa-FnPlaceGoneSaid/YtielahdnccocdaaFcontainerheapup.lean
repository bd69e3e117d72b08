/-
  The walk of container/heap.up, written by program: each line names the law of one operation. Conditions: those of the theorem.
-/
import Derived.Test.YtielahdnccocdaaProg
import Derived.Test.YtielahdnccocdaaRank
import Derived.Test.YtielahdnccocdaaIface
import Derived.Test.YtielahdnccocdaaFimplserverHeapLen
import Derived.Test.YtielahdnccocdaaFimplserverHeapLess
import Derived.Test.YtielahdnccocdaaFimplserverHeapSwap
import Derived.KernelRfl
namespace Go.Proofs.Ytielahdnccocdaa
open Go Go.RowKit
set_option linter.unusedVariables false
set_option linter.unusedSimpArgs false
namespace heapUp_okF
theorem T50 : TI Try.prog 50 false (.slice none 0 0) 1 24 := TI.mk' Try.underlying50 rfl (by kernel_rfl)
theorem C58 : Callable Try.prog 58 := ⟨_, Try.func58, by kernel_rfl, by kernel_rfl⟩
theorem C61 : Callable Try.prog 61 := ⟨_, Try.func61, by kernel_rfl, by kernel_rfl⟩
theorem MR48_Less : methRow Try.prog 48 "Less" = some ([], some (58, false)) := by kernel_rfl
theorem MR48_Swap : methRow Try.prog 48 "Swap" = some ([], some (61, false)) := by kernel_rfl
end heapUp_okF
open heapUp_okF in
set_option maxHeartbeats 4000000 in
theorem heapUp_ok (g base : Nat) (A : Option Addr) (n c : Nat) (hs : List Bt) (j : Int) (w : World) (hB : Blk w g 50 [(.slice A n c)]) (hO : Own encB 2 w base 53 (.slice A n c) hs) (hgo : ∀ s ∈ obl (.slice A n c), s ≠ g) (hb : base ≤ w.heap.size) (hN : n ≤ 1000) (hj : 0 ≤ j ∧ j < n) (hup : UpInv n j.toNat hs) :
    Fn Try.prog 39 [(.iface 48 (.pointer (some (⟨g, 0, none⟩)))), (.int .i64 j)] w fun v w' => v = .tuple #[] ∧ ∃ ys, ys.length = n ∧ ys.Perm hs ∧ HeapN n ys ∧ Own encB 2 w' base 53 (.slice A n c) ys ∧ Ch (obl (.slice A n c)) w w' := by
  have hub := hO.lt
  have hub0 := hO.lt
  have hlen := hO.le.2.2
  have hglt := hB.lt
  refine fn_of (n := 23) Try.func39 rfl rfl rfl rfl ?_
  have hc : Ch (obl (.slice A n c)) w w := Ch.refl _ _
  refine cw_block ?_
  refine cw_loop (σ := Nat × (List Bt)) (fun ⟨jj, ys⟩ => [(1, (.int .i64 (jj : Int))), (0, (.iface 48 (.pointer (some (⟨g, 0, none⟩)))))]) (fun ⟨jj, ys⟩ W => (jj < n ∧ UpInv n jj ys ∧ ys.Perm hs ∧ ys.length = n) ∧ Blk W g 50 [(.slice A n c)] ∧ Own encB 2 W base 53 (.slice A n c) ys ∧ Ch (obl (.slice A n c)) w W) (fun ⟨jj, ys⟩ => jj) (j.toNat, hs) ?_ ?_ ?_
  · exact ⟨(iv (by omega)), rfl, trivial⟩
  · refine ⟨⟨by omega, hup, .refl _, by omega⟩, hB, hO.less (by omega), hc⟩
  · rintro ⟨jj, ys⟩ J5 w1 ⟨⟨hjn, hinv, hperm, hyl⟩, hB, hO, hc⟩ K2 hK3
    have hsz7 := hc.size
    have hpj : par jj = (jj - 1) / 2 := rfl
    refine cw_block ?_
    refine cw_seq fun K8 hK9 => ?_
    refine cw_region fun K10 hK11 => ?_
    refine rw_cons (op_pv (w0 rfl) rfl rfl (pv_move (v := (.int .i64 (jj : Int))) rfl rfl) ?_)
    refine rw_cons (op_pv (w0 rfl) rfl rfl (pv_sub rfl rfl rfl (by omega) (by omega)) ?_)
    refine rw_cons (op_pv (w0 rfl) rfl rfl (pv_quot (r := (par jj : Int)) rfl rfl rfl (by decide) (par_int jj) (by omega) (by omega)) ?_)
    refine rw_cons (op_pv (w0 rfl) rfl rfl (pv_assign (v := (.int .i64 (par jj : Int))) rfl rfl) ?_)
    refine rw_nil (hK11 _ _ ?_)
    refine hK9 _ _ ?_
    refine cw_seq fun K12 hK13 => ?_
    refine cw_seq fun K14 hK15 => ?_
    refine cw_region fun K16 hK17 => ?_
    refine rw_cons (op_pv (w0 rfl) rfl rfl (pv_move (v := (.int .i64 (par jj : Int))) rfl rfl) ?_)
    refine rw_cons (op_pv (w0 rfl) rfl rfl (pv_move (v := (.int .i64 (jj : Int))) rfl rfl) ?_)
    refine rw_cons (op_pv (w0 rfl) rfl rfl (pv_eql rfl rfl rfl) ?_)
    refine rw_cons (op_pv (w0 rfl) rfl rfl (pv_move (v := (.bool (decide (((par jj : Int) : Int) = (jj : Int))))) rfl rfl) ?_)
    refine rw_split 11 rfl (fun hb18 => ?_) (fun hb18 => ?_)
    · -- yes
      replace hb18 := of_decide_eq_true hb18
      refine rw_cons (op_pass (w1n2 rfl rfl rfl rfl) rfl rfl ?_)
      refine rw_cons (op_pass (w1n2 rfl rfl rfl rfl) rfl rfl ?_)
      refine rw_cons (op_pass (w1n2 rfl rfl rfl rfl) rfl rfl ?_)
      refine rw_cons (op_pass (w1n2 rfl rfl rfl rfl) rfl rfl ?_)
      refine rw_cons (op_pass (w1n2 rfl rfl rfl rfl) rfl rfl ?_)
      refine rw_cons (op_pv (w0 rfl) rfl rfl (pv_pickT (v := (.bool true)) rfl rfl rfl) ?_)
      refine rw_nil (hK17 _ _ ?_)
      refine hK15 _ _ ?_
      refine cw_cond rfl (fun h19 => ?_) (fun h19 => ?_)
      · -- then
        clear h19
        refine cw_exit ?_
        dsimp only [thenQ, blockQ, Nat.beq, cond]
        refine fin0n ?_
        have hh : HeapN n ys := up_done hinv (by first | exact .inl (by omega) | exact .inr (by assumption))
        exact ⟨rfl, ys, hyl, hperm, hh, hO, hc⟩
      · -- else
        cases h19
    · -- no
      replace hb18 := of_decide_eq_false hb18
      refine rw_cons (op_pv (w1y rfl rfl rfl rfl) rfl rfl (pv_move (v := (.iface 48 (.pointer (some (⟨g, 0, none⟩))))) rfl rfl) ?_)
      refine rw_cons (op_pv (w1y rfl rfl rfl rfl) rfl rfl (pv_move (v := (.int .i64 (jj : Int))) rfl rfl) ?_)
      refine rw_cons (op_pv (w1y rfl rfl rfl rfl) rfl rfl (pv_move (v := (.int .i64 (par jj : Int))) rfl rfl) ?_)
      refine rw_cons (op_call (w1y rfl rfl rfl rfl) rfl rfl (rc_invoke C58 (run_method_val Try.underlying48 MR48_Less (run_load T50 (hB.cell (i := 0) rfl))) rfl rfl rfl) (heapLess_ok _ n _ ys (jj : Int) (par jj : Int) _ (hO.rs (fun _ => rfl)) (by omega) (by omega) (by omega)) ?_)
      rintro _ w20 ⟨rfl, hch21⟩
      have hsz22 := hch21.size
      replace hB := hB.ch0 hch21
      replace hO := hO.ch0 hch21
      replace hc := hc.step0 hch21
      refine rw_cons (op_pv (w1y rfl rfl rfl rfl) rfl rfl (pv_not rfl rfl) ?_)
      refine rw_cons (op_pv (w0 rfl) rfl rfl (pv_pickF (v := (.bool (!(dec (Ahead (el ys (jj : Int).toNat) (el ys (par jj : Int).toNat)))))) rfl rfl rfl) ?_)
      refine rw_nil (hK17 _ _ ?_)
      refine hK15 _ _ ?_
      refine cw_cond rfl (fun h23 => ?_) (fun h23 => ?_)
      · -- then
        replace h23 := not_t h23
        replace h23 := dec_f h23
        refine cw_exit ?_
        dsimp only [thenQ, blockQ, Nat.beq, cond]
        refine fin0n ?_
        have hh : HeapN n ys := up_done hinv (by first | exact .inl (by omega) | exact .inr (by assumption))
        exact ⟨rfl, ys, hyl, hperm, hh, hO, hc⟩
      · -- else
        replace h23 := not_f h23
        replace h23 := dec_t h23
        refine cw_skip ?_
        refine hK13 _ _ ?_
        refine cw_seq fun K24 hK25 => ?_
        refine cw_region fun K26 hK27 => ?_
        refine rw_cons (op_pv (w0 rfl) rfl rfl (pv_move (v := (.iface 48 (.pointer (some (⟨g, 0, none⟩))))) rfl rfl) ?_)
        refine rw_cons (op_pv (w0 rfl) rfl rfl (pv_move (v := (.int .i64 (par jj : Int))) rfl rfl) ?_)
        refine rw_cons (op_pv (w0 rfl) rfl rfl (pv_move (v := (.int .i64 (jj : Int))) rfl rfl) ?_)
        refine rw_cons (op_call (w0 rfl) rfl rfl (rc_invoke C61 (run_method_val Try.underlying48 MR48_Swap (run_load T50 (hB.cell (i := 0) rfl))) rfl rfl rfl) (heapSwap_ok _ _ _ _ _ (par jj : Int) (jj : Int) _ hO (by omega) (by omega) (by omega)) ?_)
        rintro _ w28 ⟨rfl, hO29, hch30⟩
        have hsz31 := hch30.size
        replace hB := hB.ch hch30 (fun hs => dj_asg hgo _ hs rfl)
        replace hc := hc.step hch30 (fun s hs => .inl hs)
        clear hO; have hO : Own encB 2 w28 base 53 (.slice A n c) (swap ys (par jj) jj) := hO29; clear hO29
        refine rw_nil (hK27 _ _ ?_)
        refine hK25 _ _ ?_
        refine cw_region fun K32 hK33 => ?_
        refine rw_cons (op_pv (w0 rfl) rfl rfl (pv_move (v := (.int .i64 (par jj : Int))) rfl rfl) ?_)
        refine rw_cons (op_pv (w0 rfl) rfl rfl (pv_assign (v := (.int .i64 (par jj : Int))) rfl rfl) ?_)
        refine rw_nil (hK33 _ _ ?_)
        refine hK3 _ _ (par jj, swap ys (par jj) jj) ⟨(iv (by omega)), rfl, trivial⟩ ⟨?_, hB, hO, hc⟩ ?_
        · exact ⟨by omega, up_step hinv (by omega) (by omega) (by omega) (by assumption), (swap_perm (by omega) (by omega)).trans hperm, by rw [swap_len]; exact hyl⟩
        · (first | omega | (simp only []; omega))
end Go.Proofs.Ytielahdnccocdaa

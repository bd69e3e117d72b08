/-
  The walk of container/heap.down, written by program: each line names the law of one operation. Conditions: those of the theorem.
-/
import Derived.Test.YtielahdnccocdaaProg
import Derived.Test.YtielahdnccocdaaRank
import Derived.Test.YtielahdnccocdaaIface
import Derived.Test.YtielahdnccocdaaFimplserverHeapLen
import Derived.Test.YtielahdnccocdaaFimplserverHeapLess
import Derived.Test.YtielahdnccocdaaFimplserverHeapSwap
import Derived.KernelRfl
namespace Go.Proofs.Ytielahdnccocdaa
open Go Go.RowKit
set_option linter.unusedVariables false
set_option linter.unusedSimpArgs false
namespace heapDown_okF
theorem T50 : TI Try.prog 50 false (.slice none 0 0) 1 24 := TI.mk' Try.underlying50 rfl (by kernel_rfl)
theorem C58 : Callable Try.prog 58 := ⟨_, Try.func58, by kernel_rfl, by kernel_rfl⟩
theorem C61 : Callable Try.prog 61 := ⟨_, Try.func61, by kernel_rfl, by kernel_rfl⟩
theorem MR48_Less : methRow Try.prog 48 "Less" = some ([], some (58, false)) := by kernel_rfl
theorem MR48_Swap : methRow Try.prog 48 "Swap" = some ([], some (61, false)) := by kernel_rfl
end heapDown_okF
open heapDown_okF in
set_option maxHeartbeats 4000000 in
theorem heapDown_ok (g base : Nat) (A : Option Addr) (n c : Nat) (hs : List Bt) (m : Int) (w : World) (hB : Blk w g 50 [(.slice A n c)]) (hO : Own encB 2 w base 53 (.slice A n c) hs) (hgo : ∀ s ∈ obl (.slice A n c), s ≠ g) (hb : base ≤ w.heap.size) (hN : n ≤ 1000) (hm : 0 ≤ m ∧ m ≤ n) (hdn : DownInv m.toNat 0 hs) :
    Fn Try.prog 40 [(.iface 48 (.pointer (some (⟨g, 0, none⟩)))), (.int .i64 0), (.int .i64 m)] w fun v w' => ∃ b ys, v = .bool b ∧ ys.length = n ∧ ys.Perm hs ∧ HeapN m.toNat ys ∧ (∀ k, m.toNat ≤ k → el ys k = el hs k) ∧ Own encB 2 w' base 53 (.slice A n c) ys ∧ Ch (obl (.slice A n c)) w w' := by
  have hub := hO.lt
  have hub0 := hO.lt
  have hlen := hO.le.2.2
  have hglt := hB.lt
  refine fn_of (n := 48) Try.func40 rfl rfl rfl rfl ?_
  have hc : Ch (obl (.slice A n c)) w w := Ch.refl _ _
  refine cw_seq fun K1 hK2 => ?_
  refine cw_region fun K3 hK4 => ?_
  refine rw_cons (op_pv (w0 rfl) rfl rfl (pv_assign (v := (.bool false)) rfl rfl) ?_)
  refine rw_nil (hK4 _ _ ?_)
  refine hK2 _ _ ?_
  refine cw_seq fun K5 hK6 => ?_
  refine cw_region fun K7 hK8 => ?_
  refine rw_cons (op_pv (w0 rfl) rfl rfl (pv_move (v := (.int .i64 0)) rfl rfl) ?_)
  refine rw_cons (op_pv (w0 rfl) rfl rfl (pv_assign (v := (.int .i64 0)) rfl rfl) ?_)
  refine rw_nil (hK8 _ _ ?_)
  refine hK6 _ _ ?_
  refine cw_seq fun K9 hK10 => ?_
  refine cw_block ?_
  refine cw_loop (σ := Nat × (List Bt)) (fun ⟨ii, ys⟩ => [(7, (.int .i64 (ii : Int))), (0, (.iface 48 (.pointer (some (⟨g, 0, none⟩))))), (1, (.int .i64 0)), (2, (.int .i64 m)), (6, (.bool false))]) (fun ⟨ii, ys⟩ W => (ii ≤ n ∧ DownInv m.toNat ii ys ∧ ys.Perm hs ∧ ys.length = n ∧ ∀ k, m.toNat ≤ k → el ys k = el hs k) ∧ Blk W g 50 [(.slice A n c)] ∧ Own encB 2 W base 53 (.slice A n c) ys ∧ Ch (obl (.slice A n c)) w W) (fun ⟨ii, ys⟩ => n - ii) (0, hs) ?_ ?_ ?_
  · exact ⟨rfl, rfl, rfl, rfl, rfl, trivial⟩
  · refine ⟨⟨by omega, hdn, .refl _, by omega, fun k hk => rfl⟩, hB, hO.less (by omega), hc⟩
  · rintro ⟨ii, ys⟩ J15 w11 ⟨⟨hin, hinv, hperm, hyl, hrest⟩, hB, hO, hc⟩ K12 hK13
    have hsz17 := hc.size
    refine cw_block ?_
    refine cw_seq fun K18 hK19 => ?_
    refine cw_region fun K20 hK21 => ?_
    refine rw_cons (op_pv (w0 rfl) rfl rfl (pv_move (v := (.int .i64 (ii : Int))) rfl rfl) ?_)
    refine rw_cons (op_pv (w0 rfl) rfl rfl (pv_mul rfl rfl rfl (by omega) (by omega)) ?_)
    refine rw_cons (op_pv (w0 rfl) rfl rfl (pv_add rfl rfl rfl (by omega) (by omega)) ?_)
    obtain ⟨d22, hd23⟩ : ∃ d : Nat, (2 * (ii : Int)) + 1 = (d : Int) := ⟨((2 * (ii : Int)) + 1).toNat, by omega⟩
    rw [hd23]
    refine rw_cons (op_pv (w0 rfl) rfl rfl (pv_assign (v := (.int .i64 (d22 : Int))) rfl rfl) ?_)
    refine rw_nil (hK21 _ _ ?_)
    refine hK19 _ _ ?_
    refine cw_seq fun K24 hK25 => ?_
    refine cw_seq fun K26 hK27 => ?_
    refine cw_region fun K28 hK29 => ?_
    refine rw_cons (op_pv (w0 rfl) rfl rfl (pv_move (v := (.int .i64 (d22 : Int))) rfl rfl) ?_)
    refine rw_cons (op_pv (w0 rfl) rfl rfl (pv_move (v := (.int .i64 m)) rfl rfl) ?_)
    refine rw_cons (op_pv (w0 rfl) rfl rfl (pv_geq rfl rfl rfl) ?_)
    refine rw_cons (op_pv (w0 rfl) rfl rfl (pv_move (v := (.bool (decide (m ≤ (d22 : Int))))) rfl rfl) ?_)
    refine rw_split 18 rfl (fun hb30 => ?_) (fun hb30 => ?_)
    · -- yes
      replace hb30 := of_decide_eq_true hb30
      refine rw_cons (op_pass (w1n2 rfl rfl rfl rfl) rfl rfl ?_)
      refine rw_cons (op_pass (w1n2 rfl rfl rfl rfl) rfl rfl ?_)
      refine rw_cons (op_pv (w0 rfl) rfl rfl (pv_pickT (v := (.bool true)) rfl rfl rfl) ?_)
      refine rw_nil (hK29 _ _ ?_)
      refine hK27 _ _ ?_
      refine cw_cond rfl (fun h31 => ?_) (fun h31 => ?_)
      · -- then
        clear h31
        refine cw_exit ?_
        refine hK10 _ _ ?_
        refine cw_seq fun K32 hK33 => ?_
        refine cw_region fun K34 hK35 => ?_
        refine rw_cons (op_pv (w0 rfl) rfl rfl (pv_move (v := (.int .i64 (ii : Int))) rfl rfl) ?_)
        refine rw_cons (op_pv (w0 rfl) rfl rfl (pv_move (v := (.int .i64 0)) rfl rfl) ?_)
        refine rw_cons (op_pv (w0 rfl) rfl rfl (pv_gtr rfl rfl rfl) ?_)
        refine rw_cons (op_pv (w0 rfl) rfl rfl (pv_assign (v := (.bool (decide (0 < (ii : Int))))) rfl rfl) ?_)
        refine rw_nil (hK35 _ _ ?_)
        refine hK33 _ _ ?_
        refine cw_ret ?_
        refine fin1 rfl ?_
        have hh : HeapN m.toNat ys := down_leaf0 hinv (by omega)
        exact ⟨_, ys, rfl, hyl, hperm, hh, hrest, hO, hc⟩
      · -- else
        cases h31
    · -- no
      replace hb30 := of_decide_eq_false hb30
      refine rw_cons (op_pv (w1y rfl rfl rfl rfl) rfl rfl (pv_move (v := (.int .i64 (d22 : Int))) rfl rfl) ?_)
      refine rw_cons (op_pv (w1y rfl rfl rfl rfl) rfl rfl (pv_lss rfl rfl rfl) ?_)
      refine rw_cons (op_pv (w0 rfl) rfl rfl (pv_pickF (v := (.bool (decide ((d22 : Int) < 0)))) rfl rfl rfl) ?_)
      refine rw_nil (hK29 _ _ ?_)
      refine hK27 _ _ ?_
      refine cw_cond rfl (fun h36 => ?_) (fun h36 => ?_)
      · -- then
        replace h36 := of_decide_eq_true h36
        refine cw_exit ?_
        refine hK10 _ _ ?_
        refine cw_seq fun K37 hK38 => ?_
        refine cw_region fun K39 hK40 => ?_
        refine rw_cons (op_pv (w0 rfl) rfl rfl (pv_move (v := (.int .i64 (ii : Int))) rfl rfl) ?_)
        refine rw_cons (op_pv (w0 rfl) rfl rfl (pv_move (v := (.int .i64 0)) rfl rfl) ?_)
        refine rw_cons (op_pv (w0 rfl) rfl rfl (pv_gtr rfl rfl rfl) ?_)
        refine rw_cons (op_pv (w0 rfl) rfl rfl (pv_assign (v := (.bool (decide (0 < (ii : Int))))) rfl rfl) ?_)
        refine rw_nil (hK40 _ _ ?_)
        refine hK38 _ _ ?_
        refine cw_ret ?_
        refine fin1 rfl ?_
        have hh : HeapN m.toNat ys := down_leaf0 hinv (by omega)
        exact ⟨_, ys, rfl, hyl, hperm, hh, hrest, hO, hc⟩
      · -- else
        replace h36 := of_decide_eq_false h36
        refine cw_skip ?_
        refine hK25 _ _ ?_
        refine cw_seq fun K41 hK42 => ?_
        refine cw_region fun K43 hK44 => ?_
        refine rw_cons (op_pv (w0 rfl) rfl rfl (pv_move (v := (.int .i64 (d22 : Int))) rfl rfl) ?_)
        refine rw_cons (op_pv (w0 rfl) rfl rfl (pv_assign (v := (.int .i64 (d22 : Int))) rfl rfl) ?_)
        refine rw_nil (hK44 _ _ ?_)
        refine hK42 _ _ ?_
        refine cw_seq fun K45 hK46 => ?_
        refine cw_seq fun K47 hK48 => ?_
        refine cw_region fun K49 hK50 => ?_
        refine rw_cons (op_pv (w0 rfl) rfl rfl (pv_move (v := (.int .i64 (d22 : Int))) rfl rfl) ?_)
        refine rw_cons (op_pv (w0 rfl) rfl rfl (pv_add rfl rfl rfl (by omega) (by omega)) ?_)
        obtain ⟨d51, hd52⟩ : ∃ d : Nat, (d22 : Int) + 1 = (d : Int) := ⟨((d22 : Int) + 1).toNat, by omega⟩
        rw [hd52]
        refine rw_cons (op_pv (w0 rfl) rfl rfl (pv_assign (v := (.int .i64 (d51 : Int))) rfl rfl) ?_)
        refine rw_nil (hK50 _ _ ?_)
        refine hK48 _ _ ?_
        refine cw_seq fun K53 hK54 => ?_
        refine cw_region fun K55 hK56 => ?_
        refine rw_cons (op_pv (w0 rfl) rfl rfl (pv_move (v := (.int .i64 (d51 : Int))) rfl rfl) ?_)
        refine rw_cons (op_pv (w0 rfl) rfl rfl (pv_move (v := (.int .i64 m)) rfl rfl) ?_)
        refine rw_cons (op_pv (w0 rfl) rfl rfl (pv_lss rfl rfl rfl) ?_)
        refine rw_cons (op_pv (w0 rfl) rfl rfl (pv_move (v := (.bool (decide ((d51 : Int) < m)))) rfl rfl) ?_)
        refine rw_split 28 rfl (fun hb57 => ?_) (fun hb57 => ?_)
        · -- yes
          replace hb57 := of_decide_eq_true hb57
          refine rw_cons (op_pv (w1y rfl rfl rfl rfl) rfl rfl (pv_move (v := (.iface 48 (.pointer (some (⟨g, 0, none⟩))))) rfl rfl) ?_)
          refine rw_cons (op_pv (w1y rfl rfl rfl rfl) rfl rfl (pv_move (v := (.int .i64 (d51 : Int))) rfl rfl) ?_)
          refine rw_cons (op_pv (w1y rfl rfl rfl rfl) rfl rfl (pv_move (v := (.int .i64 (d22 : Int))) rfl rfl) ?_)
          refine rw_cons (op_call (w1y rfl rfl rfl rfl) rfl rfl (rc_invoke C58 (run_method_val Try.underlying48 MR48_Less (run_load T50 (hB.cell (i := 0) rfl))) rfl rfl rfl) (heapLess_ok _ n _ ys (d51 : Int) (d22 : Int) _ (hO.rs (fun _ => rfl)) (by omega) (by omega) (by omega)) ?_)
          rintro _ w58 ⟨rfl, hch59⟩
          have hsz60 := hch59.size
          replace hB := hB.ch0 hch59
          replace hO := hO.ch0 hch59
          replace hc := hc.step0 hch59
          refine rw_cons (op_pv (w0 rfl) rfl rfl (pv_pickT (v := (.bool (dec (Ahead (el ys (d51 : Int).toNat) (el ys (d22 : Int).toNat))))) rfl rfl rfl) ?_)
          refine rw_nil (hK56 _ _ ?_)
          refine hK54 _ _ ?_
          refine cw_cond rfl (fun h61 => ?_) (fun h61 => ?_)
          · -- then
            replace h61 := dec_t h61
            refine cw_region fun K62 hK63 => ?_
            refine rw_cons (op_pv (w0 rfl) rfl rfl (pv_move (v := (.int .i64 (d51 : Int))) rfl rfl) ?_)
            refine rw_cons (op_pv (w0 rfl) rfl rfl (pv_assign (v := (.int .i64 (d51 : Int))) rfl rfl) ?_)
            refine rw_nil (hK63 _ _ ?_)
            refine hK46 _ _ ?_
            refine cw_seq fun K64 hK65 => ?_
            refine cw_seq fun K66 hK67 => ?_
            refine cw_region fun K68 hK69 => ?_
            refine rw_cons (op_pv (w0 rfl) rfl rfl (pv_move (v := (.iface 48 (.pointer (some (⟨g, 0, none⟩))))) rfl rfl) ?_)
            refine rw_cons (op_pv (w0 rfl) rfl rfl (pv_move (v := (.int .i64 (d51 : Int))) rfl rfl) ?_)
            refine rw_cons (op_pv (w0 rfl) rfl rfl (pv_move (v := (.int .i64 (ii : Int))) rfl rfl) ?_)
            refine rw_cons (op_call (w0 rfl) rfl rfl (rc_invoke C58 (run_method_val Try.underlying48 MR48_Less (run_load T50 (hB.cell (i := 0) rfl))) rfl rfl rfl) (heapLess_ok _ n _ ys (d51 : Int) (ii : Int) _ (hO.rs (fun _ => rfl)) (by omega) (by omega) (by omega)) ?_)
            rintro _ w70 ⟨rfl, hch71⟩
            have hsz72 := hch71.size
            replace hB := hB.ch0 hch71
            replace hO := hO.ch0 hch71
            replace hc := hc.step0 hch71
            refine rw_cons (op_pv (w0 rfl) rfl rfl (pv_not rfl rfl) ?_)
            refine rw_nil (hK69 _ _ ?_)
            refine hK67 _ _ ?_
            refine cw_cond rfl (fun h73 => ?_) (fun h73 => ?_)
            · -- then
              replace h73 := not_t h73
              replace h73 := dec_f h73
              refine cw_exit ?_
              refine hK10 _ _ ?_
              refine cw_seq fun K74 hK75 => ?_
              refine cw_region fun K76 hK77 => ?_
              refine rw_cons (op_pv (w0 rfl) rfl rfl (pv_move (v := (.int .i64 (ii : Int))) rfl rfl) ?_)
              refine rw_cons (op_pv (w0 rfl) rfl rfl (pv_move (v := (.int .i64 0)) rfl rfl) ?_)
              refine rw_cons (op_pv (w0 rfl) rfl rfl (pv_gtr rfl rfl rfl) ?_)
              refine rw_cons (op_pv (w0 rfl) rfl rfl (pv_assign (v := (.bool (decide (0 < (ii : Int))))) rfl rfl) ?_)
              refine rw_nil (hK77 _ _ ?_)
              refine hK75 _ _ ?_
              refine cw_ret ?_
              refine fin1 rfl ?_
              have hh : HeapN m.toNat ys := down_leaf (j := d51) hinv (best_r (j1 := d22) (j2 := d51) (by omega) (by omega) (by assumption)) (by assumption)
              exact ⟨_, ys, rfl, hyl, hperm, hh, hrest, hO, hc⟩
            · -- else
              replace h73 := not_f h73
              replace h73 := dec_t h73
              refine cw_skip ?_
              refine hK65 _ _ ?_
              refine cw_seq fun K78 hK79 => ?_
              refine cw_region fun K80 hK81 => ?_
              refine rw_cons (op_pv (w0 rfl) rfl rfl (pv_move (v := (.iface 48 (.pointer (some (⟨g, 0, none⟩))))) rfl rfl) ?_)
              refine rw_cons (op_pv (w0 rfl) rfl rfl (pv_move (v := (.int .i64 (ii : Int))) rfl rfl) ?_)
              refine rw_cons (op_pv (w0 rfl) rfl rfl (pv_move (v := (.int .i64 (d51 : Int))) rfl rfl) ?_)
              refine rw_cons (op_call (w0 rfl) rfl rfl (rc_invoke C61 (run_method_val Try.underlying48 MR48_Swap (run_load T50 (hB.cell (i := 0) rfl))) rfl rfl rfl) (heapSwap_ok _ _ _ _ _ (ii : Int) (d51 : Int) _ hO (by omega) (by omega) (by omega)) ?_)
              rintro _ w82 ⟨rfl, hO83, hch84⟩
              have hsz85 := hch84.size
              replace hB := hB.ch hch84 (fun hs => dj_asg hgo _ hs rfl)
              replace hc := hc.step hch84 (fun s hs => .inl hs)
              clear hO; have hO : Own encB 2 w82 base 53 (.slice A n c) (swap ys ii d51) := hO83; clear hO83
              refine rw_nil (hK81 _ _ ?_)
              refine hK79 _ _ ?_
              refine cw_region fun K86 hK87 => ?_
              refine rw_cons (op_pv (w0 rfl) rfl rfl (pv_move (v := (.int .i64 (d51 : Int))) rfl rfl) ?_)
              refine rw_cons (op_pv (w0 rfl) rfl rfl (pv_assign (v := (.int .i64 (d51 : Int))) rfl rfl) ?_)
              refine rw_nil (hK87 _ _ ?_)
              refine hK13 _ _ (d51, swap ys ii d51) ⟨(iv (by omega)), rfl, rfl, rfl, rfl, trivial⟩ ⟨?_, hB, hO, hc⟩ ?_
              · exact ⟨by omega, down_step hinv (by omega) (by omega) (par_kid (by omega)) (by omega) (by assumption) (best_r (j1 := d22) (j2 := d51) (by omega) (by omega) (by assumption)), (swap_perm (by omega) (by omega)).trans hperm, by rw [swap_len]; exact hyl, fun k hk => by rw [el_swap (by omega) (by omega), if_neg (by omega), if_neg (by omega)]; exact hrest k hk⟩
              · (first | omega | (simp only []; omega))
          · -- else
            replace h61 := dec_f h61
            refine cw_skip ?_
            refine hK46 _ _ ?_
            refine cw_seq fun K88 hK89 => ?_
            refine cw_seq fun K90 hK91 => ?_
            refine cw_region fun K92 hK93 => ?_
            refine rw_cons (op_pv (w0 rfl) rfl rfl (pv_move (v := (.iface 48 (.pointer (some (⟨g, 0, none⟩))))) rfl rfl) ?_)
            refine rw_cons (op_pv (w0 rfl) rfl rfl (pv_move (v := (.int .i64 (d22 : Int))) rfl rfl) ?_)
            refine rw_cons (op_pv (w0 rfl) rfl rfl (pv_move (v := (.int .i64 (ii : Int))) rfl rfl) ?_)
            refine rw_cons (op_call (w0 rfl) rfl rfl (rc_invoke C58 (run_method_val Try.underlying48 MR48_Less (run_load T50 (hB.cell (i := 0) rfl))) rfl rfl rfl) (heapLess_ok _ n _ ys (d22 : Int) (ii : Int) _ (hO.rs (fun _ => rfl)) (by omega) (by omega) (by omega)) ?_)
            rintro _ w94 ⟨rfl, hch95⟩
            have hsz96 := hch95.size
            replace hB := hB.ch0 hch95
            replace hO := hO.ch0 hch95
            replace hc := hc.step0 hch95
            refine rw_cons (op_pv (w0 rfl) rfl rfl (pv_not rfl rfl) ?_)
            refine rw_nil (hK93 _ _ ?_)
            refine hK91 _ _ ?_
            refine cw_cond rfl (fun h97 => ?_) (fun h97 => ?_)
            · -- then
              replace h97 := not_t h97
              replace h97 := dec_f h97
              refine cw_exit ?_
              refine hK10 _ _ ?_
              refine cw_seq fun K98 hK99 => ?_
              refine cw_region fun K100 hK101 => ?_
              refine rw_cons (op_pv (w0 rfl) rfl rfl (pv_move (v := (.int .i64 (ii : Int))) rfl rfl) ?_)
              refine rw_cons (op_pv (w0 rfl) rfl rfl (pv_move (v := (.int .i64 0)) rfl rfl) ?_)
              refine rw_cons (op_pv (w0 rfl) rfl rfl (pv_gtr rfl rfl rfl) ?_)
              refine rw_cons (op_pv (w0 rfl) rfl rfl (pv_assign (v := (.bool (decide (0 < (ii : Int))))) rfl rfl) ?_)
              refine rw_nil (hK101 _ _ ?_)
              refine hK99 _ _ ?_
              refine cw_ret ?_
              refine fin1 rfl ?_
              have hh : HeapN m.toNat ys := down_leaf (j := d22) hinv (best_l (j1 := d22) (j2 := d51) (by omega) (by omega) (fun h => by first | assumption | (exfalso; omega))) (by assumption)
              exact ⟨_, ys, rfl, hyl, hperm, hh, hrest, hO, hc⟩
            · -- else
              replace h97 := not_f h97
              replace h97 := dec_t h97
              refine cw_skip ?_
              refine hK89 _ _ ?_
              refine cw_seq fun K102 hK103 => ?_
              refine cw_region fun K104 hK105 => ?_
              refine rw_cons (op_pv (w0 rfl) rfl rfl (pv_move (v := (.iface 48 (.pointer (some (⟨g, 0, none⟩))))) rfl rfl) ?_)
              refine rw_cons (op_pv (w0 rfl) rfl rfl (pv_move (v := (.int .i64 (ii : Int))) rfl rfl) ?_)
              refine rw_cons (op_pv (w0 rfl) rfl rfl (pv_move (v := (.int .i64 (d22 : Int))) rfl rfl) ?_)
              refine rw_cons (op_call (w0 rfl) rfl rfl (rc_invoke C61 (run_method_val Try.underlying48 MR48_Swap (run_load T50 (hB.cell (i := 0) rfl))) rfl rfl rfl) (heapSwap_ok _ _ _ _ _ (ii : Int) (d22 : Int) _ hO (by omega) (by omega) (by omega)) ?_)
              rintro _ w106 ⟨rfl, hO107, hch108⟩
              have hsz109 := hch108.size
              replace hB := hB.ch hch108 (fun hs => dj_asg hgo _ hs rfl)
              replace hc := hc.step hch108 (fun s hs => .inl hs)
              clear hO; have hO : Own encB 2 w106 base 53 (.slice A n c) (swap ys ii d22) := hO107; clear hO107
              refine rw_nil (hK105 _ _ ?_)
              refine hK103 _ _ ?_
              refine cw_region fun K110 hK111 => ?_
              refine rw_cons (op_pv (w0 rfl) rfl rfl (pv_move (v := (.int .i64 (d22 : Int))) rfl rfl) ?_)
              refine rw_cons (op_pv (w0 rfl) rfl rfl (pv_assign (v := (.int .i64 (d22 : Int))) rfl rfl) ?_)
              refine rw_nil (hK111 _ _ ?_)
              refine hK13 _ _ (d22, swap ys ii d22) ⟨(iv (by omega)), rfl, rfl, rfl, rfl, trivial⟩ ⟨?_, hB, hO, hc⟩ ?_
              · exact ⟨by omega, down_step hinv (by omega) (by omega) (par_kid (by omega)) (by omega) (by assumption) (best_l (j1 := d22) (j2 := d51) (by omega) (by omega) (fun h => by first | assumption | (exfalso; omega))), (swap_perm (by omega) (by omega)).trans hperm, by rw [swap_len]; exact hyl, fun k hk => by rw [el_swap (by omega) (by omega), if_neg (by omega), if_neg (by omega)]; exact hrest k hk⟩
              · (first | omega | (simp only []; omega))
        · -- no
          replace hb57 := of_decide_eq_false hb57
          refine rw_cons (op_pass (w1n1 rfl rfl rfl rfl) rfl rfl ?_)
          refine rw_cons (op_pass (w1n1 rfl rfl rfl rfl) rfl rfl ?_)
          refine rw_cons (op_pass (w1n1 rfl rfl rfl rfl) rfl rfl ?_)
          refine rw_cons (op_pass (w1n1 rfl rfl rfl rfl) rfl rfl ?_)
          refine rw_cons (op_pv (w0 rfl) rfl rfl (pv_pickF (v := (.bool false)) rfl rfl rfl) ?_)
          refine rw_nil (hK56 _ _ ?_)
          refine hK54 _ _ ?_
          refine cw_cond rfl (fun h112 => ?_) (fun h112 => ?_)
          · -- then
            cases h112
          · -- else
            clear h112
            refine cw_skip ?_
            refine hK46 _ _ ?_
            refine cw_seq fun K113 hK114 => ?_
            refine cw_seq fun K115 hK116 => ?_
            refine cw_region fun K117 hK118 => ?_
            refine rw_cons (op_pv (w0 rfl) rfl rfl (pv_move (v := (.iface 48 (.pointer (some (⟨g, 0, none⟩))))) rfl rfl) ?_)
            refine rw_cons (op_pv (w0 rfl) rfl rfl (pv_move (v := (.int .i64 (d22 : Int))) rfl rfl) ?_)
            refine rw_cons (op_pv (w0 rfl) rfl rfl (pv_move (v := (.int .i64 (ii : Int))) rfl rfl) ?_)
            refine rw_cons (op_call (w0 rfl) rfl rfl (rc_invoke C58 (run_method_val Try.underlying48 MR48_Less (run_load T50 (hB.cell (i := 0) rfl))) rfl rfl rfl) (heapLess_ok _ n _ ys (d22 : Int) (ii : Int) _ (hO.rs (fun _ => rfl)) (by omega) (by omega) (by omega)) ?_)
            rintro _ w119 ⟨rfl, hch120⟩
            have hsz121 := hch120.size
            replace hB := hB.ch0 hch120
            replace hO := hO.ch0 hch120
            replace hc := hc.step0 hch120
            refine rw_cons (op_pv (w0 rfl) rfl rfl (pv_not rfl rfl) ?_)
            refine rw_nil (hK118 _ _ ?_)
            refine hK116 _ _ ?_
            refine cw_cond rfl (fun h122 => ?_) (fun h122 => ?_)
            · -- then
              replace h122 := not_t h122
              replace h122 := dec_f h122
              refine cw_exit ?_
              refine hK10 _ _ ?_
              refine cw_seq fun K123 hK124 => ?_
              refine cw_region fun K125 hK126 => ?_
              refine rw_cons (op_pv (w0 rfl) rfl rfl (pv_move (v := (.int .i64 (ii : Int))) rfl rfl) ?_)
              refine rw_cons (op_pv (w0 rfl) rfl rfl (pv_move (v := (.int .i64 0)) rfl rfl) ?_)
              refine rw_cons (op_pv (w0 rfl) rfl rfl (pv_gtr rfl rfl rfl) ?_)
              refine rw_cons (op_pv (w0 rfl) rfl rfl (pv_assign (v := (.bool (decide (0 < (ii : Int))))) rfl rfl) ?_)
              refine rw_nil (hK126 _ _ ?_)
              refine hK124 _ _ ?_
              refine cw_ret ?_
              refine fin1 rfl ?_
              have hh : HeapN m.toNat ys := down_leaf (j := d22) hinv (best_l (j1 := d22) (j2 := d51) (by omega) (by omega) (fun h => by first | assumption | (exfalso; omega))) (by assumption)
              exact ⟨_, ys, rfl, hyl, hperm, hh, hrest, hO, hc⟩
            · -- else
              replace h122 := not_f h122
              replace h122 := dec_t h122
              refine cw_skip ?_
              refine hK114 _ _ ?_
              refine cw_seq fun K127 hK128 => ?_
              refine cw_region fun K129 hK130 => ?_
              refine rw_cons (op_pv (w0 rfl) rfl rfl (pv_move (v := (.iface 48 (.pointer (some (⟨g, 0, none⟩))))) rfl rfl) ?_)
              refine rw_cons (op_pv (w0 rfl) rfl rfl (pv_move (v := (.int .i64 (ii : Int))) rfl rfl) ?_)
              refine rw_cons (op_pv (w0 rfl) rfl rfl (pv_move (v := (.int .i64 (d22 : Int))) rfl rfl) ?_)
              refine rw_cons (op_call (w0 rfl) rfl rfl (rc_invoke C61 (run_method_val Try.underlying48 MR48_Swap (run_load T50 (hB.cell (i := 0) rfl))) rfl rfl rfl) (heapSwap_ok _ _ _ _ _ (ii : Int) (d22 : Int) _ hO (by omega) (by omega) (by omega)) ?_)
              rintro _ w131 ⟨rfl, hO132, hch133⟩
              have hsz134 := hch133.size
              replace hB := hB.ch hch133 (fun hs => dj_asg hgo _ hs rfl)
              replace hc := hc.step hch133 (fun s hs => .inl hs)
              clear hO; have hO : Own encB 2 w131 base 53 (.slice A n c) (swap ys ii d22) := hO132; clear hO132
              refine rw_nil (hK130 _ _ ?_)
              refine hK128 _ _ ?_
              refine cw_region fun K135 hK136 => ?_
              refine rw_cons (op_pv (w0 rfl) rfl rfl (pv_move (v := (.int .i64 (d22 : Int))) rfl rfl) ?_)
              refine rw_cons (op_pv (w0 rfl) rfl rfl (pv_assign (v := (.int .i64 (d22 : Int))) rfl rfl) ?_)
              refine rw_nil (hK136 _ _ ?_)
              refine hK13 _ _ (d22, swap ys ii d22) ⟨(iv (by omega)), rfl, rfl, rfl, rfl, trivial⟩ ⟨?_, hB, hO, hc⟩ ?_
              · exact ⟨by omega, down_step hinv (by omega) (by omega) (par_kid (by omega)) (by omega) (by assumption) (best_l (j1 := d22) (j2 := d51) (by omega) (by omega) (fun h => by first | assumption | (exfalso; omega))), (swap_perm (by omega) (by omega)).trans hperm, by rw [swap_len]; exact hyl, fun k hk => by rw [el_swap (by omega) (by omega), if_neg (by omega), if_neg (by omega)]; exact hrest k hk⟩
              · (first | omega | (simp only []; omega))
end Go.Proofs.Ytielahdnccocdaa

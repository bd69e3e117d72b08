/-
  The walk of impl.idsAscend, written by program: each line names the law of one operation. Conditions: those of the theorem.
-/
import Derived.Test.YtielahdnccocdaaProg
import Derived.Test.YtielahdnccocdaaPlaces
import Derived.Test.YtielahdnccocdaaFimplidValid
import Derived.KernelRfl
namespace Go.Proofs.Ytielahdnccocdaa
open Go Go.RowKit
set_option linter.unusedVariables false
set_option linter.unusedSimpArgs false
namespace idsAscend_okF
theorem T3 : TI Try.prog 3 false (.int .i64 0) 1 8 := TI.mk' Try.underlying3 rfl (by kernel_rfl)
theorem C30 : Callable Try.prog 30 := ⟨_, Try.func30, by kernel_rfl, by kernel_rfl⟩
end idsAscend_okF
open idsAscend_okF in
set_option maxHeartbeats 4000000 in
theorem idsAscend_ok (A : Option Addr) (n c : Nat) (xs : List Int) (w : World) (hR : RS encI 1 w w.heap.size A n xs) (hn : n ≤ 1099511627776) :
    Fn Try.prog 31 [(.slice A n c)] w fun v w' => v = .bool (dec (IdsOK xs)) ∧ Ch [] w w' := by
  have hlen := hR.len
  refine fn_of (n := 29) Try.func31 rfl rfl rfl rfl ?_
  have hc : Ch [] w w := Ch.refl _ _
  refine cw_seq fun K1 hK2 => ?_
  refine cw_region fun K3 hK4 => ?_
  refine rw_cons (op_pv (w0 rfl) rfl rfl (pv_assign (v := (.bool false)) rfl rfl) ?_)
  refine rw_nil (hK4 _ _ ?_)
  refine hK2 _ _ ?_
  refine cw_seq fun K5 hK6 => ?_
  refine cw_seq fun K7 hK8 => ?_
  refine cw_region fun K9 hK10 => ?_
  refine rw_cons (op_pv (w0 rfl) rfl rfl (pv_move (v := (.slice A n c)) rfl rfl) ?_)
  refine rw_cons (op_pv (w0 rfl) rfl rfl (pv_len Try.underlying24 rfl rfl) ?_)
  refine rw_cons (op_pv (w0 rfl) rfl rfl (pv_move (v := (.int .i64 0)) rfl rfl) ?_)
  refine rw_nil (hK10 _ _ ?_)
  refine hK8 _ _ ?_
  refine cw_block ?_
  refine cw_loop (σ := Nat) (fun k => [(7, (.int .i64 (k : Int))), (0, (.slice A n c)), (5, (.slice A n c)), (6, (.int .i64 (n : Int)))]) (fun k W => (k ≤ n ∧ ∀ j, j < k → ((1 ≤ el xs j ∧ el xs j ≤ 99) ∧ (0 < j → el xs ((j : Int) - 1).toNat < el xs j))) ∧ RS encI 1 W w.heap.size A n xs ∧ Ch [] w W) (fun k => n - k) 0 ?_ ?_ ?_
  · exact ⟨rfl, rfl, rfl, rfl, trivial⟩
  · refine ⟨⟨Nat.zero_le _, fun j hj => by omega⟩, hR, hc⟩
  · rintro k J15 w11 ⟨⟨hk, hye⟩, hR, hc⟩ K12 hK13
    have hsz17 := hc.size
    refine cw_seq fun K18 hK19 => ?_
    refine cw_region fun K20 hK21 => ?_
    refine rw_cons (op_pv (w0 rfl) rfl rfl (pv_lss rfl rfl rfl) ?_)
    refine rw_nil (hK21 _ _ ?_)
    refine hK19 _ _ ?_
    refine cw_seq fun K22 hK23 => ?_
    refine cw_cond rfl (fun h24 => ?_) (fun h24 => ?_)
    · -- then
      replace h24 := of_decide_eq_true h24
      refine cw_skip ?_
      refine hK23 _ _ ?_
      refine cw_seq fun K25 hK26 => ?_
      refine cw_block ?_
      refine cw_seq fun K27 hK28 => ?_
      refine cw_region fun K29 hK30 => ?_
      refine rw_cons (op_pv (w0 rfl) rfl rfl (pv_move (v := (.int .i64 (k : Int))) rfl rfl) ?_)
      refine rw_cons (op_pv (w0 rfl) rfl rfl (pv_idx Try.underlying24 T3 rfl rfl rfl (hR.some (k := k) (by omega)) (by omega) (by omega)) ?_)
      refine rw_cons (op_lv (w0 rfl) rfl rfl (lv_load T3 rfl rfl (hR.cell0 (k := k) (by omega) rfl)) ?_)
      refine rw_cons (op_pv (w0 rfl) rfl rfl (pv_assign (v := (.int .i64 (k : Int))) rfl rfl) ?_)
      refine rw_cons (op_pv (w0 rfl) rfl rfl (pv_assign (v := (.int .i64 (el xs k))) rfl rfl) ?_)
      refine rw_nil (hK30 _ _ ?_)
      refine hK28 _ _ ?_
      refine cw_seq fun K31 hK32 => ?_
      refine cw_region fun K33 hK34 => ?_
      refine rw_cons (op_pv (w0 rfl) rfl rfl (pv_move (v := (.int .i64 (el xs k))) rfl rfl) ?_)
      refine rw_cons (op_call (w0 rfl) rfl rfl (rc_call C30 rfl rfl) (idValid_ok (el xs k) _  ) ?_)
      rintro _ w35 ⟨rfl, hch36⟩
      have hsz37 := hch36.size
      replace hR := hR.ch0 hch36
      replace hc := hc.step0 hch36
      refine rw_cons (op_pv (w0 rfl) rfl rfl (pv_not rfl rfl) ?_)
      refine rw_cons (op_pv (w0 rfl) rfl rfl (pv_move (v := (.bool (!(dec (1 ≤ (el xs k) ∧ (el xs k) ≤ 99))))) rfl rfl) ?_)
      refine rw_split 15 rfl (fun hb38 => ?_) (fun hb38 => ?_)
      · -- yes
        replace hb38 := not_t hb38
        replace hb38 := dec_f hb38
        refine rw_cons (op_pass (w1n2 rfl rfl rfl rfl) rfl rfl ?_)
        refine rw_cons (op_pass (w1n2 rfl rfl rfl rfl) rfl rfl ?_)
        refine rw_cons (op_pass (w1n2 rfl rfl rfl rfl) rfl rfl ?_)
        refine rw_cons (op_pass (w1u rfl rfl rfl) rfl rfl ?_)
        refine rw_cons (op_pass (w1u rfl rfl rfl) rfl rfl ?_)
        refine rw_cons (op_pass (w1u rfl rfl rfl) rfl rfl ?_)
        refine rw_cons (op_pass (w1u rfl rfl rfl) rfl rfl ?_)
        refine rw_cons (op_pass (w1u rfl rfl rfl) rfl rfl ?_)
        refine rw_cons (op_pass (w1u rfl rfl rfl) rfl rfl ?_)
        refine rw_cons (op_pass (w1u rfl rfl rfl) rfl rfl ?_)
        refine rw_cons (op_pass (w1n2 rfl rfl rfl rfl) rfl rfl ?_)
        refine rw_cons (op_pv (w0 rfl) rfl rfl (pv_pickT (v := (.bool true)) rfl rfl rfl) ?_)
        refine rw_nil (hK34 _ _ ?_)
        refine hK32 _ _ ?_
        refine cw_cond rfl (fun h39 => ?_) (fun h39 => ?_)
        · -- then
          clear h39
          refine cw_seq fun K40 hK41 => ?_
          refine cw_region fun K42 hK43 => ?_
          refine rw_cons (op_pv (w0 rfl) rfl rfl (pv_assign (v := (.bool false)) rfl rfl) ?_)
          refine rw_nil (hK43 _ _ ?_)
          refine hK41 _ _ ?_
          refine cw_ret ?_
          refine fin1 rfl ?_
          exact ⟨bvf (fun h => by have := h k (by omega); omega), hc⟩
        · -- else
          cases h39
      · -- no
        replace hb38 := not_f hb38
        replace hb38 := dec_t hb38
        refine rw_cons (op_pv (w1y rfl rfl rfl rfl) rfl rfl (pv_move (v := (.int .i64 (k : Int))) rfl rfl) ?_)
        refine rw_cons (op_pv (w1y rfl rfl rfl rfl) rfl rfl (pv_gtr rfl rfl rfl) ?_)
        refine rw_cons (op_pv (w1y rfl rfl rfl rfl) rfl rfl (pv_move (v := (.bool (decide (0 < (k : Int))))) rfl rfl) ?_)
        refine rw_split 18 rfl (fun hb44 => ?_) (fun hb44 => ?_)
        · -- yes
          replace hb44 := of_decide_eq_true hb44
          refine rw_cons (op_pv (w1y rfl rfl rfl rfl) rfl rfl (pv_move (v := (.slice A n c)) rfl rfl) ?_)
          refine rw_cons (op_pv (w1y rfl rfl rfl rfl) rfl rfl (pv_move (v := (.int .i64 (k : Int))) rfl rfl) ?_)
          refine rw_cons (op_pv (w1y rfl rfl rfl rfl) rfl rfl (pv_sub rfl rfl rfl (by omega) (by omega)) ?_)
          refine rw_cons (op_pv (w1y rfl rfl rfl rfl) rfl rfl (pv_idx Try.underlying24 T3 rfl rfl rfl (hR.some (k := ((k : Int) - 1).toNat) (by omega)) (by omega) (by omega)) ?_)
          refine rw_cons (op_lv (w1y rfl rfl rfl rfl) rfl rfl (lv_load T3 rfl rfl (hR.cell0 (k := ((k : Int) - 1).toNat) (by omega) rfl)) ?_)
          refine rw_cons (op_pv (w1y rfl rfl rfl rfl) rfl rfl (pv_move (v := (.int .i64 (el xs k))) rfl rfl) ?_)
          refine rw_cons (op_pv (w1y rfl rfl rfl rfl) rfl rfl (pv_geq rfl rfl rfl) ?_)
          refine rw_cons (op_pv (w1y rfl rfl rfl rfl) rfl rfl (pv_pickT (v := (.bool (decide ((el xs k) ≤ (el xs ((k : Int) - 1).toNat))))) rfl rfl rfl) ?_)
          refine rw_cons (op_pv (w0 rfl) rfl rfl (pv_pickF (v := (.bool (decide ((el xs k) ≤ (el xs ((k : Int) - 1).toNat))))) rfl rfl rfl) ?_)
          refine rw_nil (hK34 _ _ ?_)
          refine hK32 _ _ ?_
          refine cw_cond rfl (fun h45 => ?_) (fun h45 => ?_)
          · -- then
            replace h45 := of_decide_eq_true h45
            refine cw_seq fun K46 hK47 => ?_
            refine cw_region fun K48 hK49 => ?_
            refine rw_cons (op_pv (w0 rfl) rfl rfl (pv_assign (v := (.bool false)) rfl rfl) ?_)
            refine rw_nil (hK49 _ _ ?_)
            refine hK47 _ _ ?_
            refine cw_ret ?_
            refine fin1 rfl ?_
            exact ⟨bvf (fun h => by have := h k (by omega); omega), hc⟩
          · -- else
            replace h45 := of_decide_eq_false h45
            refine cw_skip ?_
            refine hK26 _ _ ?_
            refine cw_region fun K50 hK51 => ?_
            refine rw_cons (op_pv (w0 rfl) rfl rfl (pv_add rfl rfl rfl (by omega) (by omega)) ?_)
            refine rw_cons (op_pv (w0 rfl) rfl rfl (pv_move (v := (.int .i64 ((k : Int) + 1))) rfl rfl) ?_)
            refine rw_nil (hK51 _ _ ?_)
            refine hK13 _ _ (k + 1) ⟨(iv (by omega)), rfl, rfl, rfl, trivial⟩ ⟨?_, hR, hc⟩ ?_
            · refine ⟨by omega, fun j hj => ?_⟩
              by_cases hjk : j = k
              · subst hjk; first | omega | assumption
              · exact hye j (by omega)
            · (first | omega | (simp only []; omega))
        · -- no
          replace hb44 := of_decide_eq_false hb44
          refine rw_cons (op_pass (w1n1 rfl rfl rfl rfl) rfl rfl ?_)
          refine rw_cons (op_pass (w1n1 rfl rfl rfl rfl) rfl rfl ?_)
          refine rw_cons (op_pass (w1n1 rfl rfl rfl rfl) rfl rfl ?_)
          refine rw_cons (op_pass (w1n1 rfl rfl rfl rfl) rfl rfl ?_)
          refine rw_cons (op_pass (w1n1 rfl rfl rfl rfl) rfl rfl ?_)
          refine rw_cons (op_pass (w1n1 rfl rfl rfl rfl) rfl rfl ?_)
          refine rw_cons (op_pass (w1n1 rfl rfl rfl rfl) rfl rfl ?_)
          refine rw_cons (op_pv (w1y rfl rfl rfl rfl) rfl rfl (pv_pickF (v := (.bool false)) rfl rfl rfl) ?_)
          refine rw_cons (op_pv (w0 rfl) rfl rfl (pv_pickF (v := (.bool false)) rfl rfl rfl) ?_)
          refine rw_nil (hK34 _ _ ?_)
          refine hK32 _ _ ?_
          refine cw_cond rfl (fun h52 => ?_) (fun h52 => ?_)
          · -- then
            cases h52
          · -- else
            clear h52
            refine cw_skip ?_
            refine hK26 _ _ ?_
            refine cw_region fun K53 hK54 => ?_
            refine rw_cons (op_pv (w0 rfl) rfl rfl (pv_add rfl rfl rfl (by omega) (by omega)) ?_)
            refine rw_cons (op_pv (w0 rfl) rfl rfl (pv_move (v := (.int .i64 ((k : Int) + 1))) rfl rfl) ?_)
            refine rw_nil (hK54 _ _ ?_)
            refine hK13 _ _ (k + 1) ⟨(iv (by omega)), rfl, rfl, rfl, trivial⟩ ⟨?_, hR, hc⟩ ?_
            · refine ⟨by omega, fun j hj => ?_⟩
              by_cases hjk : j = k
              · subst hjk; first | omega | assumption
              · exact hye j (by omega)
            · (first | omega | (simp only []; omega))
    · -- else
      replace h24 := of_decide_eq_false h24
      refine cw_exit ?_
      refine hK6 _ _ ?_
      refine cw_seq fun K55 hK56 => ?_
      refine cw_region fun K57 hK58 => ?_
      refine rw_cons (op_pv (w0 rfl) rfl rfl (pv_assign (v := (.bool true)) rfl rfl) ?_)
      refine rw_nil (hK58 _ _ ?_)
      refine hK56 _ _ ?_
      refine cw_ret ?_
      refine fin1 rfl ?_
      exact ⟨bvt (fun j hj => hye j (by omega)), hc⟩
end Go.Proofs.Ytielahdnccocdaa

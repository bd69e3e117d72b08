/-
  The walk of spec.l22Best, written by program: each line names the law of one operation. Conditions: those of the theorem.
-/
import Derived.Test.YtielahdnccocdaaProg
import Derived.Test.YtielahdnccocdaaRank
import Derived.Test.YtielahdnccocdaaFspecl13Place
import Derived.Test.YtielahdnccocdaaFspecl22Score
import Derived.KernelRfl
namespace Go.Proofs.Ytielahdnccocdaa
open Go Go.RowKit
set_option linter.unusedVariables false
set_option linter.unusedSimpArgs false
namespace l22Best_okF
theorem T3 : TI Try.prog 3 false (.int .i64 0) 1 8 := TI.mk' Try.underlying3 rfl (by kernel_rfl)
theorem C29 : Callable Try.prog 29 := ⟨_, Try.func29, by kernel_rfl, by kernel_rfl⟩
theorem C38 : Callable Try.prog 38 := ⟨_, Try.func38, by kernel_rfl, by kernel_rfl⟩
end l22Best_okF
open l22Best_okF in
set_option maxHeartbeats 4000000 in
theorem l22Best_ok (p : Int) (Axs : Option Addr) (nxs cxs : Nat) (xs : List Int) (At : Option Addr) (nt ct : Nat) (t : List Int) (w : World) (hRxs : RS encI 1 w w.heap.size Axs nxs xs) (hNxs : nxs ≤ 1099511627776) (hRt : RS encI 1 w w.heap.size At nt t) (hNt : nt ≤ 1099511627776) (hp : 1 ≤ p ∧ p ≤ 99) (hids : IdsOK xs) :
    Fn Try.prog 35 [(.int .i64 p), (.slice Axs nxs cxs), (.slice At nt ct)] w fun v w' => v = .int .i64 (bestL p t xs) ∧ Ch [] w w' := by
  have hlenxs := hRxs.len
  have hlent := hRt.len
  refine fn_of (n := 43) Try.func35 rfl rfl rfl rfl ?_
  have hc : Ch [] w w := Ch.refl _ _
  refine cw_seq fun K1 hK2 => ?_
  refine cw_region fun K3 hK4 => ?_
  refine rw_cons (op_pv (w0 rfl) rfl rfl (pv_assign (v := (.int .i64 0)) rfl rfl) ?_)
  refine rw_nil (hK4 _ _ ?_)
  refine hK2 _ _ ?_
  refine cw_seq fun K5 hK6 => ?_
  refine cw_region fun K7 hK8 => ?_
  refine rw_cons (op_pv (w0 rfl) rfl rfl (pv_assign (v := (.int .i64 0)) rfl rfl) ?_)
  refine rw_nil (hK8 _ _ ?_)
  refine hK6 _ _ ?_
  refine cw_seq fun K9 hK10 => ?_
  refine cw_seq fun K11 hK12 => ?_
  refine cw_region fun K13 hK14 => ?_
  refine rw_cons (op_pv (w0 rfl) rfl rfl (pv_assign (v := (.int .i64 0)) rfl rfl) ?_)
  refine rw_nil (hK14 _ _ ?_)
  refine hK12 _ _ ?_
  refine cw_block ?_
  refine cw_loop (σ := Nat) (fun k => [(7, (.int .i64 (bestL p t (xs.take k)))), (8, (.int .i64 (k : Int))), (0, (.int .i64 p)), (1, (.slice Axs nxs cxs)), (2, (.slice At nt ct)), (6, (.int .i64 0))]) (fun k W => (k ≤ nxs) ∧ RS encI 1 W w.heap.size Axs nxs xs ∧ RS encI 1 W w.heap.size At nt t ∧ Ch [] w W) (fun k => nxs - k) 0 ?_ ?_ ?_
  · exact ⟨rfl, rfl, rfl, rfl, rfl, rfl, trivial⟩
  · refine ⟨Nat.zero_le _, hRxs, hRt, hc⟩
  · rintro k J19 w15 ⟨hk, hRxs, hRt, hc⟩ K16 hK17
    have hsz21 := hc.size
    have hbb := best_bd (p := p) (t := t) hids (k := k) (by omega)
    have hik := fun h => (hids k h).1
    refine cw_seq fun K22 hK23 => ?_
    refine cw_seq fun K24 hK25 => ?_
    refine cw_region fun K26 hK27 => ?_
    refine rw_cons (op_pv (w0 rfl) rfl rfl (pv_move (v := (.int .i64 (k : Int))) rfl rfl) ?_)
    refine rw_cons (op_pv (w0 rfl) rfl rfl (pv_move (v := (.slice Axs nxs cxs)) rfl rfl) ?_)
    refine rw_cons (op_pv (w0 rfl) rfl rfl (pv_len Try.underlying24 rfl rfl) ?_)
    refine rw_cons (op_pv (w0 rfl) rfl rfl (pv_lss rfl rfl rfl) ?_)
    refine rw_nil (hK27 _ _ ?_)
    refine hK25 _ _ ?_
    refine cw_cond rfl (fun h28 => ?_) (fun h28 => ?_)
    · -- then
      replace h28 := of_decide_eq_true h28
      refine cw_skip ?_
      refine hK23 _ _ ?_
      refine cw_seq fun K29 hK30 => ?_
      refine cw_block ?_
      refine cw_seq fun K31 hK32 => ?_
      have hik2 := hik (by omega)
      refine cw_region fun K33 hK34 => ?_
      refine rw_cons (op_pv (w0 rfl) rfl rfl (pv_move (v := (.slice At nt ct)) rfl rfl) ?_)
      refine rw_cons (op_pv (w0 rfl) rfl rfl (pv_move (v := (.slice Axs nxs cxs)) rfl rfl) ?_)
      refine rw_cons (op_pv (w0 rfl) rfl rfl (pv_move (v := (.int .i64 (k : Int))) rfl rfl) ?_)
      refine rw_cons (op_pv (w0 rfl) rfl rfl (pv_idx Try.underlying24 T3 rfl rfl rfl (hRxs.some (k := k) (by omega)) (by omega) (by omega)) ?_)
      refine rw_cons (op_lv (w0 rfl) rfl rfl (lv_load T3 rfl rfl (hRxs.cell0 (k := k) (by omega) rfl)) ?_)
      refine rw_cons (op_call (w0 rfl) rfl rfl (rc_call C38 rfl rfl) (l13Place_ok _ nt _ t (el xs k) _ (hRt.more (by omega)) (by omega)) ?_)
      rintro _ w35 ⟨r36, rfl, hl13, hch37⟩
      have hsz38 := hch37.size
      replace hRxs := hRxs.ch0 hch37
      replace hRt := hRt.ch0 hch37
      replace hc := hc.step0 hch37
      refine rw_cons (op_pv (w0 rfl) rfl rfl (pv_lss rfl rfl rfl) ?_)
      refine rw_cons (op_pv (w0 rfl) rfl rfl (pv_move (v := (.bool (decide (r36 < 0)))) rfl rfl) ?_)
      refine rw_split 22 rfl (fun hb39 => ?_) (fun hb39 => ?_)
      · -- yes
        replace hb39 := of_decide_eq_true hb39
        refine rw_cons (op_pv (w1y rfl rfl rfl rfl) rfl rfl (pv_move (v := (.int .i64 (bestL p t (xs.take k)))) rfl rfl) ?_)
        refine rw_cons (op_pv (w1y rfl rfl rfl rfl) rfl rfl (pv_eql rfl rfl rfl) ?_)
        refine rw_cons (op_pv (w1y rfl rfl rfl rfl) rfl rfl (pv_move (v := (.bool (decide ((bestL p t (xs.take k) : Int) = 0)))) rfl rfl) ?_)
        refine rw_split 25 rfl (fun hb40 => ?_) (fun hb40 => ?_)
        · -- yes
          replace hb40 := of_decide_eq_true hb40
          refine rw_cons (op_pass (w1n2 rfl rfl rfl rfl) rfl rfl ?_)
          refine rw_cons (op_pass (w1n2 rfl rfl rfl rfl) rfl rfl ?_)
          refine rw_cons (op_pass (w1n2 rfl rfl rfl rfl) rfl rfl ?_)
          refine rw_cons (op_pass (w1n2 rfl rfl rfl rfl) rfl rfl ?_)
          refine rw_cons (op_pass (w1n2 rfl rfl rfl rfl) rfl rfl ?_)
          refine rw_cons (op_pass (w1n2 rfl rfl rfl rfl) rfl rfl ?_)
          refine rw_cons (op_pass (w1n2 rfl rfl rfl rfl) rfl rfl ?_)
          refine rw_cons (op_pass (w1n2 rfl rfl rfl rfl) rfl rfl ?_)
          refine rw_cons (op_pass (w1n2 rfl rfl rfl rfl) rfl rfl ?_)
          refine rw_cons (op_pass (w1n2 rfl rfl rfl rfl) rfl rfl ?_)
          refine rw_cons (op_pv (w1y rfl rfl rfl rfl) rfl rfl (pv_pickT (v := (.bool true)) rfl rfl rfl) ?_)
          refine rw_cons (op_pv (w0 rfl) rfl rfl (pv_pickT (v := (.bool true)) rfl rfl rfl) ?_)
          refine rw_nil (hK34 _ _ ?_)
          refine hK32 _ _ ?_
          refine cw_cond rfl (fun h41 => ?_) (fun h41 => ?_)
          · -- then
            clear h41
            refine cw_region fun K42 hK43 => ?_
            refine rw_cons (op_pv (w0 rfl) rfl rfl (pv_move (v := (.slice Axs nxs cxs)) rfl rfl) ?_)
            refine rw_cons (op_pv (w0 rfl) rfl rfl (pv_move (v := (.int .i64 (k : Int))) rfl rfl) ?_)
            refine rw_cons (op_pv (w0 rfl) rfl rfl (pv_idx Try.underlying24 T3 rfl rfl rfl (hRxs.some (k := k) (by omega)) (by omega) (by omega)) ?_)
            refine rw_cons (op_lv (w0 rfl) rfl rfl (lv_load T3 rfl rfl (hRxs.cell0 (k := k) (by omega) rfl)) ?_)
            refine rw_cons (op_pv (w0 rfl) rfl rfl (pv_assign (v := (.int .i64 (el xs k))) rfl rfl) ?_)
            refine rw_nil (hK43 _ _ ?_)
            refine hK30 _ _ ?_
            refine cw_region fun K44 hK45 => ?_
            refine rw_cons (op_pv (w0 rfl) rfl rfl (pv_move (v := (.int .i64 (k : Int))) rfl rfl) ?_)
            refine rw_cons (op_pv (w0 rfl) rfl rfl (pv_add rfl rfl rfl (by omega) (by omega)) ?_)
            refine rw_cons (op_pv (w0 rfl) rfl rfl (pv_assign (v := (.int .i64 ((k : Int) + 1))) rfl rfl) ?_)
            refine rw_nil (hK45 _ _ ?_)
            refine hK17 _ _ (k + 1) ⟨(iv (by rw [bestL_snoc p t (by omega)]; exact (best_yes (hl13.1 (by omega)) (by omega)).symm)), (iv (by omega)), rfl, rfl, rfl, rfl, trivial⟩ ⟨?_, hRxs, hRt, hc⟩ ?_
            · omega
            · (first | omega | (simp only []; omega))
          · -- else
            cases h41
        · -- no
          replace hb40 := of_decide_eq_false hb40
          refine rw_cons (op_pv (w1y rfl rfl rfl rfl) rfl rfl (pv_move (v := (.int .i64 p)) rfl rfl) ?_)
          refine rw_cons (op_pv (w1y rfl rfl rfl rfl) rfl rfl (pv_move (v := (.slice Axs nxs cxs)) rfl rfl) ?_)
          refine rw_cons (op_pv (w1y rfl rfl rfl rfl) rfl rfl (pv_move (v := (.int .i64 (k : Int))) rfl rfl) ?_)
          refine rw_cons (op_pv (w1y rfl rfl rfl rfl) rfl rfl (pv_idx Try.underlying24 T3 rfl rfl rfl (hRxs.some (k := k) (by omega)) (by omega) (by omega)) ?_)
          refine rw_cons (op_lv (w1y rfl rfl rfl rfl) rfl rfl (lv_load T3 rfl rfl (hRxs.cell0 (k := k) (by omega) rfl)) ?_)
          refine rw_cons (op_call (w1y rfl rfl rfl rfl) rfl rfl (rc_call C29 rfl rfl) (l22Score_ok p (el xs k) _  (by omega) (by omega)) ?_)
          rintro _ w46 ⟨rfl, hch47⟩
          have hsz48 := hch47.size
          replace hRxs := hRxs.ch0 hch47
          replace hRt := hRt.ch0 hch47
          replace hc := hc.step0 hch47
          refine rw_cons (op_pv (w1y rfl rfl rfl rfl) rfl rfl (pv_move (v := (.int .i64 p)) rfl rfl) ?_)
          refine rw_cons (op_pv (w1y rfl rfl rfl rfl) rfl rfl (pv_move (v := (.int .i64 (bestL p t (xs.take k)))) rfl rfl) ?_)
          refine rw_cons (op_call (w1y rfl rfl rfl rfl) rfl rfl (rc_call C29 rfl rfl) (l22Score_ok p (bestL p t (xs.take k)) _  (by omega) (by omega)) ?_)
          rintro _ w49 ⟨rfl, hch50⟩
          have hsz51 := hch50.size
          replace hRxs := hRxs.ch0 hch50
          replace hRt := hRt.ch0 hch50
          replace hc := hc.step0 hch50
          refine rw_cons (op_pv (w1y rfl rfl rfl rfl) rfl rfl (pv_gtr rfl rfl rfl) ?_)
          refine rw_cons (op_pv (w1y rfl rfl rfl rfl) rfl rfl (pv_pickF (v := (.bool (decide ((mixP p (bestL p t (xs.take k))) < (mixP p (el xs k)))))) rfl rfl rfl) ?_)
          refine rw_cons (op_pv (w0 rfl) rfl rfl (pv_pickT (v := (.bool (decide ((mixP p (bestL p t (xs.take k))) < (mixP p (el xs k)))))) rfl rfl rfl) ?_)
          refine rw_nil (hK34 _ _ ?_)
          refine hK32 _ _ ?_
          refine cw_cond rfl (fun h52 => ?_) (fun h52 => ?_)
          · -- then
            replace h52 := of_decide_eq_true h52
            refine cw_region fun K53 hK54 => ?_
            refine rw_cons (op_pv (w0 rfl) rfl rfl (pv_move (v := (.slice Axs nxs cxs)) rfl rfl) ?_)
            refine rw_cons (op_pv (w0 rfl) rfl rfl (pv_move (v := (.int .i64 (k : Int))) rfl rfl) ?_)
            refine rw_cons (op_pv (w0 rfl) rfl rfl (pv_idx Try.underlying24 T3 rfl rfl rfl (hRxs.some (k := k) (by omega)) (by omega) (by omega)) ?_)
            refine rw_cons (op_lv (w0 rfl) rfl rfl (lv_load T3 rfl rfl (hRxs.cell0 (k := k) (by omega) rfl)) ?_)
            refine rw_cons (op_pv (w0 rfl) rfl rfl (pv_assign (v := (.int .i64 (el xs k))) rfl rfl) ?_)
            refine rw_nil (hK54 _ _ ?_)
            refine hK30 _ _ ?_
            refine cw_region fun K55 hK56 => ?_
            refine rw_cons (op_pv (w0 rfl) rfl rfl (pv_move (v := (.int .i64 (k : Int))) rfl rfl) ?_)
            refine rw_cons (op_pv (w0 rfl) rfl rfl (pv_add rfl rfl rfl (by omega) (by omega)) ?_)
            refine rw_cons (op_pv (w0 rfl) rfl rfl (pv_assign (v := (.int .i64 ((k : Int) + 1))) rfl rfl) ?_)
            refine rw_nil (hK56 _ _ ?_)
            refine hK17 _ _ (k + 1) ⟨(iv (by rw [bestL_snoc p t (by omega)]; exact (best_yes (hl13.1 (by omega)) (by omega)).symm)), (iv (by omega)), rfl, rfl, rfl, rfl, trivial⟩ ⟨?_, hRxs, hRt, hc⟩ ?_
            · omega
            · (first | omega | (simp only []; omega))
          · -- else
            replace h52 := of_decide_eq_false h52
            refine cw_skip ?_
            refine hK30 _ _ ?_
            refine cw_region fun K57 hK58 => ?_
            refine rw_cons (op_pv (w0 rfl) rfl rfl (pv_move (v := (.int .i64 (k : Int))) rfl rfl) ?_)
            refine rw_cons (op_pv (w0 rfl) rfl rfl (pv_add rfl rfl rfl (by omega) (by omega)) ?_)
            refine rw_cons (op_pv (w0 rfl) rfl rfl (pv_assign (v := (.int .i64 ((k : Int) + 1))) rfl rfl) ?_)
            refine rw_nil (hK58 _ _ ?_)
            refine hK17 _ _ (k + 1) ⟨(iv (by rw [bestL_snoc p t (by omega)]; first | exact (best_no1 (fun h9 => by have := hl13.2 h9; omega)).symm | exact (best_no2 (by omega) (by omega)).symm)), (iv (by omega)), rfl, rfl, rfl, rfl, trivial⟩ ⟨?_, hRxs, hRt, hc⟩ ?_
            · omega
            · (first | omega | (simp only []; omega))
      · -- no
        replace hb39 := of_decide_eq_false hb39
        refine rw_cons (op_pass (w1n1 rfl rfl rfl rfl) rfl rfl ?_)
        refine rw_cons (op_pass (w1n1 rfl rfl rfl rfl) rfl rfl ?_)
        refine rw_cons (op_pass (w1n1 rfl rfl rfl rfl) rfl rfl ?_)
        refine rw_cons (op_pass (w1u rfl rfl rfl) rfl rfl ?_)
        refine rw_cons (op_pass (w1u rfl rfl rfl) rfl rfl ?_)
        refine rw_cons (op_pass (w1u rfl rfl rfl) rfl rfl ?_)
        refine rw_cons (op_pass (w1u rfl rfl rfl) rfl rfl ?_)
        refine rw_cons (op_pass (w1u rfl rfl rfl) rfl rfl ?_)
        refine rw_cons (op_pass (w1u rfl rfl rfl) rfl rfl ?_)
        refine rw_cons (op_pass (w1u rfl rfl rfl) rfl rfl ?_)
        refine rw_cons (op_pass (w1u rfl rfl rfl) rfl rfl ?_)
        refine rw_cons (op_pass (w1u rfl rfl rfl) rfl rfl ?_)
        refine rw_cons (op_pass (w1u rfl rfl rfl) rfl rfl ?_)
        refine rw_cons (op_pass (w1n1 rfl rfl rfl rfl) rfl rfl ?_)
        refine rw_cons (op_pv (w0 rfl) rfl rfl (pv_pickF (v := (.bool false)) rfl rfl rfl) ?_)
        refine rw_nil (hK34 _ _ ?_)
        refine hK32 _ _ ?_
        refine cw_cond rfl (fun h59 => ?_) (fun h59 => ?_)
        · -- then
          cases h59
        · -- else
          clear h59
          refine cw_skip ?_
          refine hK30 _ _ ?_
          refine cw_region fun K60 hK61 => ?_
          refine rw_cons (op_pv (w0 rfl) rfl rfl (pv_move (v := (.int .i64 (k : Int))) rfl rfl) ?_)
          refine rw_cons (op_pv (w0 rfl) rfl rfl (pv_add rfl rfl rfl (by omega) (by omega)) ?_)
          refine rw_cons (op_pv (w0 rfl) rfl rfl (pv_assign (v := (.int .i64 ((k : Int) + 1))) rfl rfl) ?_)
          refine rw_nil (hK61 _ _ ?_)
          refine hK17 _ _ (k + 1) ⟨(iv (by rw [bestL_snoc p t (by omega)]; first | exact (best_no1 (fun h9 => by have := hl13.2 h9; omega)).symm | exact (best_no2 (by omega) (by omega)).symm)), (iv (by omega)), rfl, rfl, rfl, rfl, trivial⟩ ⟨?_, hRxs, hRt, hc⟩ ?_
          · omega
          · (first | omega | (simp only []; omega))
    · -- else
      replace h28 := of_decide_eq_false h28
      refine cw_exit ?_
      refine hK10 _ _ ?_
      refine cw_seq fun K62 hK63 => ?_
      refine cw_region fun K64 hK65 => ?_
      refine rw_cons (op_pv (w0 rfl) rfl rfl (pv_move (v := (.int .i64 (bestL p t (xs.take k)))) rfl rfl) ?_)
      refine rw_cons (op_pv (w0 rfl) rfl rfl (pv_assign (v := (.int .i64 (bestL p t (xs.take k)))) rfl rfl) ?_)
      refine rw_nil (hK65 _ _ ?_)
      refine hK63 _ _ ?_
      refine cw_ret ?_
      refine fin1 rfl ?_
      exact ⟨(iv (by rw [el_take_all xs k (by omega)])), hc⟩
end Go.Proofs.Ytielahdnccocdaa

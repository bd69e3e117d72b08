/-
  The walk of impl.LogValid, written by program: each line names the law of one operation. Conditions: those of the theorem.
-/
import Derived.Test.YtdnncgapbjnfoaaProg
import Derived.Test.YtdnncgapbjnfoaaBase
import Derived.Test.YtdnncgapbjnfoaaFimplUpdatevalid
import Derived.KernelRfl
namespace Go.Proofs.Ytdnncgapbjnfoaa
open Go Go.RowKit
set_option linter.unusedVariables false
set_option linter.unusedSimpArgs false
namespace LogValid_iF
theorem T33 : TI Try.prog 33 true (.agg #[.int .i64 0, .int .i64 0]) 2 16 := TI.mk' Try.underlying33 rfl (by kernel_rfl)
theorem C32 : Callable Try.prog 32 := ⟨_, Try.func32, by kernel_rfl, by kernel_rfl⟩
end LogValid_iF
open LogValid_iF in
set_option maxHeartbeats 4000000 in
theorem LogValid_i (A : Option Addr) (n c : Nat) (xs : List Bt) (w : World) (hR : RS encB 2 w w.heap.size A n xs) (hn : n ≤ 1099511627776) :
    Fn Try.prog 16 [(.slice A n c)] w fun v w' => v = .bool (dec (LogOK xs)) ∧ Ch [] w w' := by
  have hlen := hR.len
  refine fn_of (n := 18) Try.func16 rfl rfl rfl rfl ?_
  have hc : Ch [] w w := Ch.refl _ _
  refine cw_seq fun K1 hK2 => ?_
  refine cw_region fun K3 hK4 => ?_
  refine rw_cons (op_pv (w0 rfl) rfl rfl (pv_assign (v := (.bool false)) rfl rfl) ?_)
  refine rw_nil (hK4 _ _ ?_)
  refine hK2 _ _ ?_
  refine cw_seq fun K5 hK6 => ?_
  refine cw_seq fun K7 hK8 => ?_
  refine cw_region fun K9 hK10 => ?_
  refine rw_cons (op_pv (w0 rfl) rfl rfl (pv_move (v := (.slice A n c)) rfl rfl) ?_)
  refine rw_cons (op_pv (w0 rfl) rfl rfl (pv_len Try.underlying29 rfl rfl) ?_)
  refine rw_cons (op_pv (w0 rfl) rfl rfl (pv_gtr rfl rfl rfl) ?_)
  refine rw_nil (hK10 _ _ ?_)
  refine hK8 _ _ ?_
  refine cw_cond rfl (fun h11 => ?_) (fun h11 => ?_)
  · -- then
    replace h11 := of_decide_eq_true h11
    refine cw_seq fun K12 hK13 => ?_
    refine cw_region fun K14 hK15 => ?_
    refine rw_cons (op_pv (w0 rfl) rfl rfl (pv_assign (v := (.bool false)) rfl rfl) ?_)
    refine rw_nil (hK15 _ _ ?_)
    refine hK13 _ _ ?_
    refine cw_ret ?_
    refine fin1 rfl ?_
    exact ⟨bvf (fun h => by have := h.1; omega), hc⟩
  · -- else
    replace h11 := of_decide_eq_false h11
    refine cw_skip ?_
    refine hK6 _ _ ?_
    refine cw_seq fun K16 hK17 => ?_
    refine cw_seq fun K18 hK19 => ?_
    refine cw_region fun K20 hK21 => ?_
    refine rw_cons (op_pv (w0 rfl) rfl rfl (pv_move (v := (.slice A n c)) rfl rfl) ?_)
    refine rw_cons (op_pv (w0 rfl) rfl rfl (pv_len Try.underlying29 rfl rfl) ?_)
    refine rw_cons (op_pv (w0 rfl) rfl rfl (pv_move (v := (.int .i64 0)) rfl rfl) ?_)
    refine rw_nil (hK21 _ _ ?_)
    refine hK19 _ _ ?_
    refine cw_block ?_
    refine cw_loop (σ := Nat) (fun k => [(10, (.int .i64 (k : Int))), (8, (.slice A n c)), (9, (.int .i64 (n : Int)))]) (fun k W => (k ≤ n ∧ ∀ j, j < k → ((0 ≤ (el xs j).s ∧ (el xs j).s ≤ 4) ∧ (0 ≤ (el xs j).a ∧ (el xs j).a ≤ 99))) ∧ RS encB 2 W w.heap.size A n xs ∧ Ch [] w W) (fun k => n - k) 0 ?_ ?_ ?_
    · exact ⟨rfl, rfl, rfl, trivial⟩
    · refine ⟨⟨Nat.zero_le _, fun j hj => by omega⟩, hR, hc⟩
    · rintro k J26 w22 ⟨⟨hk, hye⟩, hR, hc⟩ K23 hK24
      have hsz28 := hc.size
      refine cw_seq fun K29 hK30 => ?_
      refine cw_region fun K31 hK32 => ?_
      refine rw_cons (op_pv (w0 rfl) rfl rfl (pv_lss rfl rfl rfl) ?_)
      refine rw_nil (hK32 _ _ ?_)
      refine hK30 _ _ ?_
      refine cw_seq fun K33 hK34 => ?_
      refine cw_cond rfl (fun h35 => ?_) (fun h35 => ?_)
      · -- then
        replace h35 := of_decide_eq_true h35
        refine cw_skip ?_
        refine hK34 _ _ ?_
        refine cw_seq fun K36 hK37 => ?_
        refine cw_block ?_
        refine cw_seq fun K38 hK39 => ?_
        refine cw_region fun K40 hK41 => ?_
        refine rw_cons (op_pv (w0 rfl) rfl rfl (pv_idx Try.underlying29 T33 rfl rfl rfl (hR.some (k := k) (by omega)) (by omega) (by omega)) ?_)
        refine rw_cons (op_lv (w0 rfl) rfl rfl (lv_loadN T33 rfl rfl rfl (fun j v hv => hR.cellE (k := k) (by omega) hv)) ?_)
        refine rw_cons (op_alloc T33 (w0 rfl) rfl rfl rfl ?_)
        rintro g43 w42 hg46 hg47 hB45 hch44
        have hsz48 := hch44.size
        replace hR := hR.ch0 hch44
        replace hc := hc.step0 hch44
        replace hB45 : Blk w42 g43 33 [(.int .i64 0), (.int .i64 0)] := hB45
        refine rw_cons (op_store_blk T33 hB45 (w0 rfl) rfl rfl rfl rfl rfl (one_all rfl) (Nat.le_of_ble_eq_true rfl) ?_)
        rintro w49 hB51 hch50
        have hsz52 := hch50.size
        replace hR := hR.ch hch50 (off1 (by omega))
        replace hc := (off1 (by omega)).step hc hch50
        replace hB45 : Blk w49 g43 33 [(.int .i64 (el xs k).s), (.int .i64 (el xs k).a)] := hB51
        clear hB51
        refine rw_nil (hK41 _ _ ?_)
        refine hK39 _ _ ?_
        refine cw_seq fun K53 hK54 => ?_
        refine cw_region fun K55 hK56 => ?_
        refine rw_cons (op_lv (w0 rfl) rfl rfl (lv_loadN T33 rfl rfl rfl (fun j v hv => hB45.cellA hv)) ?_)
        refine rw_cons (op_call (w0 rfl) rfl rfl (rc_call C32 rfl rfl) (updateValid_i (el xs k).s (el xs k).a _ ) ?_)
        rintro _ w57 ⟨rfl, hch58⟩
        have hsz59 := hch58.size
        replace hR := hR.ch0 hch58
        replace hB45 := hB45.ch0 hch58
        replace hc := hc.step0 hch58
        refine rw_cons (op_pv (w0 rfl) rfl rfl (pv_not rfl rfl) ?_)
        refine rw_nil (hK56 _ _ ?_)
        refine hK54 _ _ ?_
        refine cw_cond rfl (fun h60 => ?_) (fun h60 => ?_)
        · -- then
          replace h60 := not_t h60
          replace h60 := dec_f h60
          refine cw_seq fun K61 hK62 => ?_
          refine cw_region fun K63 hK64 => ?_
          refine rw_cons (op_pv (w0 rfl) rfl rfl (pv_assign (v := (.bool false)) rfl rfl) ?_)
          refine rw_nil (hK64 _ _ ?_)
          refine hK62 _ _ ?_
          refine cw_ret ?_
          refine fin1 rfl ?_
          exact ⟨bvf (fun h => by have := h.2 k (by omega); omega), hc⟩
        · -- else
          replace h60 := not_f h60
          replace h60 := dec_t h60
          refine cw_skip ?_
          refine hK37 _ _ ?_
          refine cw_region fun K65 hK66 => ?_
          refine rw_cons (op_pv (w0 rfl) rfl rfl (pv_add rfl rfl rfl (by omega) (by omega)) ?_)
          refine rw_cons (op_pv (w0 rfl) rfl rfl (pv_move (v := (.int .i64 ((k : Int) + 1))) rfl rfl) ?_)
          refine rw_nil (hK66 _ _ ?_)
          refine hK24 _ _ (k + 1) ⟨(iv (by omega)), rfl, rfl, trivial⟩ ⟨?_, hR, hc⟩ ?_
          · refine ⟨by omega, fun j hj => ?_⟩
            by_cases hjk : j = k
            · subst hjk; first | omega | assumption
            · exact hye j (by omega)
          · (first | omega | (simp only []; omega))
      · -- else
        replace h35 := of_decide_eq_false h35
        refine cw_exit ?_
        refine hK17 _ _ ?_
        refine cw_seq fun K67 hK68 => ?_
        refine cw_region fun K69 hK70 => ?_
        refine rw_cons (op_pv (w0 rfl) rfl rfl (pv_assign (v := (.bool true)) rfl rfl) ?_)
        refine rw_nil (hK70 _ _ ?_)
        refine hK68 _ _ ?_
        refine cw_ret ?_
        refine fin1 rfl ?_
        exact ⟨bvt ⟨by omega, fun j hj => hye j (by omega)⟩, hc⟩
end Go.Proofs.Ytdnncgapbjnfoaa

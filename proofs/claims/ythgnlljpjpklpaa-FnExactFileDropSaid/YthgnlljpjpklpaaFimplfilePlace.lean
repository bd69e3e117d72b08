/-
  The walk of impl.filePlace, written by program: each line names the law of one operation. Conditions: those of the theorem.
-/
import Derived.Test.YthgnlljpjpklpaaProg
import Derived.Test.YthgnlljpjpklpaaDeep
import Derived.KernelRfl
namespace Go.Proofs.Ythgnlljpjpklpaa
open Go Go.RowKit
set_option linter.unusedVariables false
set_option linter.unusedSimpArgs false
namespace filePlace_iF
theorem T9 : TI Try.prog 9 false (.string { data := #[] }) 1 16 := TI.mk' Try.underlying9 rfl (by kernel_rfl)
theorem T48 : TI Try.prog 48 true (.agg #[.string { data := #[] }, .slice none 0 0]) 2 40 := TI.mk' Try.underlying48 rfl (by kernel_rfl)
theorem F48_0 : FldOK Try.prog 48 0 0 := ⟨_, _, 0, Try.underlying48, rfl, rfl, by kernel_rfl⟩
end filePlace_iF
open filePlace_iF in
set_option maxHeartbeats 4000000 in
theorem filePlace_i (Ahs : Option Addr) (nhs chs : Nat) (hs : List Fl) (s : ByteArray) (w : World) (hRhs : RS encF 2 w w.heap.size Ahs nhs hs) (hDhs : DX 0 w.heap.size [] w hs) (hZhs : SzOK hs) (hNhs : nhs ≤ 1099511627776) :
    Fn Try.prog 49 [(.slice Ahs nhs chs), (.string s)] w fun v w' => v = .int .i64 (fplace (fvs hs) s) ∧ Ch [] w w' := by
  have hlenhs := hRhs.len
  refine fn_of (n := 20) Try.func49 rfl rfl rfl rfl ?_
  have hc : Ch [] w w := Ch.refl _ _
  refine cw_seq fun K1 hK2 => ?_
  refine cw_region fun K3 hK4 => ?_
  refine rw_cons (op_pv (w0 rfl) rfl rfl (pv_assign (v := (.int .i64 0)) rfl rfl) ?_)
  refine rw_nil (hK4 _ _ ?_)
  refine hK2 _ _ ?_
  refine cw_seq fun K5 hK6 => ?_
  refine cw_seq fun K7 hK8 => ?_
  refine cw_region fun K9 hK10 => ?_
  refine rw_cons (op_pv (w0 rfl) rfl rfl (pv_move (v := (.slice Ahs nhs chs)) rfl rfl) ?_)
  refine rw_cons (op_pv (w0 rfl) rfl rfl (pv_len Try.underlying24 rfl rfl) ?_)
  refine rw_cons (op_pv (w0 rfl) rfl rfl (pv_move (v := (.int .i64 0)) rfl rfl) ?_)
  refine rw_nil (hK10 _ _ ?_)
  refine hK8 _ _ ?_
  refine cw_block ?_
  refine cw_loop (σ := Nat) (fun k => [(9, (.int .i64 (k : Int))), (1, (.string s)), (7, (.slice Ahs nhs chs)), (8, (.int .i64 (nhs : Int)))]) (fun k W => (k ≤ nhs ∧ ∀ q, q < k → (el hs q).nm ≠ s) ∧ RS encF 2 W w.heap.size Ahs nhs hs ∧ DX 0 w.heap.size ([]) W hs ∧ Ch [] w W) (fun k => nhs - k) 0 ?_ ?_ ?_
  · exact ⟨rfl, rfl, rfl, rfl, trivial⟩
  · refine ⟨⟨Nat.zero_le _, fun q hq => by omega⟩, hRhs, hDhs, hc⟩
  · rintro k J15 w11 ⟨⟨hk, hye⟩, hRhs, hDhs, hc⟩ K12 hK13
    have hsz17 := hc.size
    refine cw_seq fun K18 hK19 => ?_
    refine cw_region fun K20 hK21 => ?_
    refine rw_cons (op_pv (w0 rfl) rfl rfl (pv_lss rfl rfl rfl) ?_)
    refine rw_nil (hK21 _ _ ?_)
    refine hK19 _ _ ?_
    refine cw_seq fun K22 hK23 => ?_
    refine cw_cond rfl (fun h24 => ?_) (fun h24 => ?_)
    · -- then
      replace h24 := of_decide_eq_true h24
      refine cw_skip ?_
      refine hK23 _ _ ?_
      refine cw_seq fun K25 hK26 => ?_
      refine cw_block ?_
      refine cw_seq fun K27 hK28 => ?_
      refine cw_region fun K29 hK30 => ?_
      refine rw_cons (op_pv (w0 rfl) rfl rfl (pv_move (v := (.int .i64 (k : Int))) rfl rfl) ?_)
      refine rw_cons (op_pv (w0 rfl) rfl rfl (pv_idx Try.underlying24 T48 rfl rfl rfl (hRhs.some (k := k) (by omega)) (by omega) (by omega)) ?_)
      have hR31 : RS encI 1 w11 w.heap.size (el hs k).A (el hs k).n (el hs k).ps := hDhs.rs (k := k) (by omega)
      have hln32 := hR31.len
      refine rw_cons (op_lv (w0 rfl) rfl rfl (lv_loadN T48 rfl rfl rfl (fun j v hv => hRhs.cellE (k := k) (by omega) hv)) ?_)
      refine rw_cons (op_alloc T48 (w0 rfl) rfl rfl rfl ?_)
      rintro g34 w33 hg37 hg38 hB36 hch35
      have hsz39 := hch35.size
      replace hRhs := hRhs.ch0 hch35
      replace hDhs := hDhs.ch0 hch35
      replace hR31 := hR31.ch0 hch35
      replace hc := hc.step0 hch35
      replace hB36 : Blk w33 g34 48 [(.string ByteArray.empty), (.slice none 0 0)] := hB36
      refine rw_cons (op_pv (w0 rfl) rfl rfl (pv_assign (v := (.int .i64 (k : Int))) rfl rfl) ?_)
      refine rw_cons (op_store_blk T48 hB36 (w0 rfl) rfl rfl rfl rfl rfl (one_all rfl) (Nat.le_of_ble_eq_true rfl) ?_)
      rintro w40 hB42 hch41
      have hsz43 := hch41.size
      replace hRhs := hRhs.ch hch41 (off1 (by omega))
      replace hDhs := hDhs.ch hch41 (fun s hs => by simp at hs; subst hs; first | omega | (right; left; simp; done))
      replace hR31 := hR31.ch hch41 (off1 (by omega))
      replace hc := (off1 (by omega)).step hc hch41
      replace hB36 : Blk w40 g34 48 [(.string (el hs k).nm), (.slice (el hs k).A (el hs k).n (el hs k).c)] := hB42
      clear hB42
      refine rw_nil (hK30 _ _ ?_)
      refine hK28 _ _ ?_
      refine cw_seq fun K44 hK45 => ?_
      refine cw_region fun K46 hK47 => ?_
      refine rw_cons (op_pv (w0 rfl) rfl rfl (pv_fld F48_0 rfl rfl) ?_)
      refine rw_cons (op_lv (w0 rfl) rfl rfl (lv_load T9 rfl rfl (hB36.cellA (i := 0) rfl)) ?_)
      refine rw_cons (op_pv (w0 rfl) rfl rfl (pv_move (v := (.string s)) rfl rfl) ?_)
      refine rw_cons (op_pv (w0 rfl) rfl rfl (pv_eqS rfl rfl rfl) ?_)
      refine rw_nil (hK47 _ _ ?_)
      refine hK45 _ _ ?_
      refine cw_cond rfl (fun h48 => ?_) (fun h48 => ?_)
      · -- then
        replace h48 := of_decide_eq_true h48
        refine cw_seq fun K49 hK50 => ?_
        refine cw_region fun K51 hK52 => ?_
        refine rw_cons (op_pv (w0 rfl) rfl rfl (pv_move (v := (.int .i64 (k : Int))) rfl rfl) ?_)
        refine rw_cons (op_pv (w0 rfl) rfl rfl (pv_assign (v := (.int .i64 (k : Int))) rfl rfl) ?_)
        refine rw_nil (hK52 _ _ ?_)
        refine hK50 _ _ ?_
        refine cw_ret ?_
        refine fin1 rfl ?_
        exact ⟨(iv (fplace_at (k := k) (by rw [fvs_len]; omega) (by rw [el_fvs (by omega)]; assumption) (fun q hq => by rw [el_fvs (by omega)]; exact hye q hq)).symm), hc⟩
      · -- else
        replace h48 := of_decide_eq_false h48
        refine cw_skip ?_
        refine hK26 _ _ ?_
        refine cw_region fun K53 hK54 => ?_
        refine rw_cons (op_pv (w0 rfl) rfl rfl (pv_add rfl rfl rfl (by omega) (by omega)) ?_)
        refine rw_cons (op_pv (w0 rfl) rfl rfl (pv_move (v := (.int .i64 ((k : Int) + 1))) rfl rfl) ?_)
        refine rw_nil (hK54 _ _ ?_)
        refine hK13 _ _ (k + 1) ⟨(iv (by omega)), rfl, rfl, rfl, trivial⟩ ⟨?_, hRhs, hDhs, hc⟩ ?_
        · refine ⟨by omega, fun q hq => ?_⟩
          by_cases e : q = k
          · subst e; assumption
          · exact hye q (by omega)
        · (first | omega | (simp only []; omega))
    · -- else
      replace h24 := of_decide_eq_false h24
      refine cw_exit ?_
      refine hK6 _ _ ?_
      refine cw_seq fun K55 hK56 => ?_
      refine cw_region fun K57 hK58 => ?_
      refine rw_cons (op_pv (w0 rfl) rfl rfl (pv_assign (v := (.int .i64 (-1))) rfl rfl) ?_)
      refine rw_nil (hK58 _ _ ?_)
      refine hK56 _ _ ?_
      refine cw_ret ?_
      refine fin1 rfl ?_
      exact ⟨(iv (fplace_no (fun q hq => by rw [fvs_len] at hq; rw [el_fvs hq]; exact hye q (by omega))).symm), hc⟩
end Go.Proofs.Ythgnlljpjpklpaa

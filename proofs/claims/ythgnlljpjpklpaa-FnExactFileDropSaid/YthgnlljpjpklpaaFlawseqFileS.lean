/-
  The walk of laws.eqFileS, written by program: each line names the law of one operation. Conditions: those of the theorem.
-/
import Derived.Test.YthgnlljpjpklpaaProg
import Derived.Test.YthgnlljpjpklpaaDeep
import Derived.Test.YthgnlljpjpklpaaFlawseqFile
import Derived.KernelRfl
namespace Go.Proofs.Ythgnlljpjpklpaa
open Go Go.RowKit
set_option linter.unusedVariables false
set_option linter.unusedSimpArgs false
namespace eqFileS_okF
theorem T48 : TI Try.prog 48 true (.agg #[.string { data := #[] }, .slice none 0 0]) 2 40 := TI.mk' Try.underlying48 rfl (by kernel_rfl)
theorem C51 : Callable Try.prog 51 := ⟨_, Try.func51, by kernel_rfl, by kernel_rfl⟩
end eqFileS_okF
open eqFileS_okF in
set_option maxHeartbeats 4000000 in
theorem eqFileS_ok (Ahs : Option Addr) (nhs chs : Nat) (hs : List Fl) (Ags : Option Addr) (ngs cgs : Nat) (gs : List Fl) (w : World) (hRhs : RS encF 2 w w.heap.size Ahs nhs hs) (hDhs : DX 0 w.heap.size [] w hs) (hZhs : SzOK hs) (hNhs : nhs ≤ 1099511627776) (hRgs : RS encF 2 w w.heap.size Ags ngs gs) (hDgs : DX 0 w.heap.size [] w gs) (hZgs : SzOK gs) (hNgs : ngs ≤ 1099511627776) :
    Fn Try.prog 22 [(.slice Ahs nhs chs), (.slice Ags ngs cgs)] w fun v w' => v = .bool (dec (fvs hs = fvs gs)) ∧ Ch [] w w' := by
  have hlenhs := hRhs.len
  have hlengs := hRgs.len
  refine fn_of (n := 27) Try.func22 rfl rfl rfl rfl ?_
  have hc : Ch [] w w := Ch.refl _ _
  refine cw_seq fun K1 hK2 => ?_
  refine cw_region fun K3 hK4 => ?_
  refine rw_cons (op_pv (w0 rfl) rfl rfl (pv_assign (v := (.bool false)) rfl rfl) ?_)
  refine rw_nil (hK4 _ _ ?_)
  refine hK2 _ _ ?_
  refine cw_seq fun K5 hK6 => ?_
  refine cw_seq fun K7 hK8 => ?_
  refine cw_region fun K9 hK10 => ?_
  refine rw_cons (op_pv (w0 rfl) rfl rfl (pv_move (v := (.slice Ahs nhs chs)) rfl rfl) ?_)
  refine rw_cons (op_pv (w0 rfl) rfl rfl (pv_len Try.underlying24 rfl rfl) ?_)
  refine rw_cons (op_pv (w0 rfl) rfl rfl (pv_move (v := (.slice Ags ngs cgs)) rfl rfl) ?_)
  refine rw_cons (op_pv (w0 rfl) rfl rfl (pv_len Try.underlying24 rfl rfl) ?_)
  refine rw_cons (op_pv (w0 rfl) rfl rfl (pv_neq rfl rfl rfl) ?_)
  refine rw_nil (hK10 _ _ ?_)
  refine hK8 _ _ ?_
  refine cw_cond rfl (fun h11 => ?_) (fun h11 => ?_)
  · -- then
    replace h11 := of_decide_eq_true h11
    refine cw_seq fun K12 hK13 => ?_
    refine cw_region fun K14 hK15 => ?_
    refine rw_cons (op_pv (w0 rfl) rfl rfl (pv_assign (v := (.bool false)) rfl rfl) ?_)
    refine rw_nil (hK15 _ _ ?_)
    refine hK13 _ _ ?_
    refine cw_ret ?_
    refine fin1 rfl ?_
    exact ⟨(bvf (fun h9 => by have h8 := congrArg List.length h9; rw [fvs_len, fvs_len] at h8; omega)), hc⟩
  · -- else
    replace h11 := of_decide_eq_false h11
    refine cw_skip ?_
    refine hK6 _ _ ?_
    refine cw_seq fun K16 hK17 => ?_
    refine cw_seq fun K18 hK19 => ?_
    refine cw_region fun K20 hK21 => ?_
    refine rw_cons (op_pv (w0 rfl) rfl rfl (pv_assign (v := (.int .i64 0)) rfl rfl) ?_)
    refine rw_nil (hK21 _ _ ?_)
    refine hK19 _ _ ?_
    refine cw_block ?_
    refine cw_loop (σ := Nat) (fun k => [(5, (.int .i64 (k : Int))), (0, (.slice Ahs nhs chs)), (1, (.slice Ags ngs cgs))]) (fun k W => (k ≤ nhs ∧ ∀ j, j < k → fv (el hs j) = fv (el gs j)) ∧ RS encF 2 W w.heap.size Ahs nhs hs ∧ DX 0 w.heap.size ([]) W hs ∧ RS encF 2 W w.heap.size Ags ngs gs ∧ DX 0 w.heap.size ([]) W gs ∧ Ch [] w W) (fun k => nhs - k) 0 ?_ ?_ ?_
    · exact ⟨rfl, rfl, rfl, trivial⟩
    · refine ⟨⟨Nat.zero_le _, fun j hj => by omega⟩, hRhs, hDhs, hRgs, hDgs, hc⟩
    · rintro k J26 w22 ⟨⟨hk, hye⟩, hRhs, hDhs, hRgs, hDgs, hc⟩ K23 hK24
      have hsz28 := hc.size
      refine cw_seq fun K29 hK30 => ?_
      refine cw_seq fun K31 hK32 => ?_
      refine cw_region fun K33 hK34 => ?_
      refine rw_cons (op_pv (w0 rfl) rfl rfl (pv_move (v := (.int .i64 (k : Int))) rfl rfl) ?_)
      refine rw_cons (op_pv (w0 rfl) rfl rfl (pv_move (v := (.slice Ahs nhs chs)) rfl rfl) ?_)
      refine rw_cons (op_pv (w0 rfl) rfl rfl (pv_len Try.underlying24 rfl rfl) ?_)
      refine rw_cons (op_pv (w0 rfl) rfl rfl (pv_lss rfl rfl rfl) ?_)
      refine rw_nil (hK34 _ _ ?_)
      refine hK32 _ _ ?_
      refine cw_cond rfl (fun h35 => ?_) (fun h35 => ?_)
      · -- then
        replace h35 := of_decide_eq_true h35
        refine cw_skip ?_
        refine hK30 _ _ ?_
        refine cw_seq fun K36 hK37 => ?_
        refine cw_block ?_
        refine cw_seq fun K38 hK39 => ?_
        have hzk := hZhs k (by omega); have hzg := hZgs k (by omega)
        refine cw_drawn (fun u => Ch [] w22 u) (.free 0 (.free 1 (.free 2 (.free 3 (.free 4 (.free 5 (.free 6 (.free 7 (.one 8 true (.free 9 (.done))))))))))) (by kernel_rfl) (by kernel_rfl) (Ch.refl _ _).drew fun K43 hK44 => ?_
        obtain ⟨w40, hw_, hch41, hsz42⟩ : ∃ w1 : World, w1 = w22.drew ∧ Ch [] w22 w1 ∧ w1.heap.size = w22.heap.size := ⟨_, rfl, (Ch.refl _ _).drew, rfl⟩
        rw [← hw_]; clear hw_
        have hr45 : Ch [] w22 w40 := hch41.sub (fun s hs => by cases hs)
        have hRhs_r := hRhs
        have hDhs_r := hDhs
        have hRgs_r := hRgs
        have hDgs_r := hDgs
        have hsz46 := hch41.size
        replace hRhs := hRhs.ch0 hch41
        replace hDhs := hDhs.ch0 hch41
        replace hRgs := hRgs.ch0 hch41
        replace hDgs := hDgs.ch0 hch41
        replace hc := hc.step0 hch41
        refine tw_free rfl (w0 rfl) rfl rfl (fun u hu => (pv_move (v := (.slice Ahs nhs chs)) rfl rfl : PV _ _ _ _) u) ?_
        refine tw_free rfl (w0 rfl) rfl rfl (fun u hu => (pv_move (v := (.int .i64 (k : Int))) rfl rfl : PV _ _ _ _) u) ?_
        refine tw_free rfl (w0 rfl) rfl rfl (fun u hu => (pv_idx Try.underlying24 T48 rfl rfl rfl (hRhs.some (k := k) (by omega)) (by omega) (by omega) : PV _ _ _ _) u) ?_
        refine tw_free rfl (w0 rfl) rfl rfl (fun u hu => lv_loadN T48 rfl rfl rfl (fun j v hv => (hRhs_r.ch0 hu).cellE (k := k) (by omega) hv)) ?_
        have hR47 : RS encI 1 w40 w.heap.size (el hs k).A (el hs k).n (el hs k).ps := hDhs.rs (k := k) (by omega)
        have hR47_r : RS encI 1 w22 w.heap.size (el hs k).A (el hs k).n (el hs k).ps := hDhs_r.rs (k := k) (by omega)
        have hln48 := hR47.len
        refine tw_free rfl (w0 rfl) rfl rfl (fun u hu => (pv_move (v := (.slice Ags ngs cgs)) rfl rfl : PV _ _ _ _) u) ?_
        refine tw_free rfl (w0 rfl) rfl rfl (fun u hu => (pv_move (v := (.int .i64 (k : Int))) rfl rfl : PV _ _ _ _) u) ?_
        refine tw_free rfl (w0 rfl) rfl rfl (fun u hu => (pv_idx Try.underlying24 T48 rfl rfl rfl (hRgs.some (k := k) (by omega)) (by omega) (by omega) : PV _ _ _ _) u) ?_
        refine tw_free rfl (w0 rfl) rfl rfl (fun u hu => lv_loadN T48 rfl rfl rfl (fun j v hv => (hRgs_r.ch0 hu).cellE (k := k) (by omega) hv)) ?_
        have hR49 : RS encI 1 w40 w.heap.size (el gs k).A (el gs k).n (el gs k).ps := hDgs.rs (k := k) (by omega)
        have hR49_r : RS encI 1 w22 w.heap.size (el gs k).A (el gs k).n (el gs k).ps := hDgs_r.rs (k := k) (by omega)
        have hln50 := hR49.len
        refine tw_one rfl (op_call (w0 rfl) rfl rfl (rc_call C51 rfl rfl) (eqFile_ok (⟨(el hs k).nm, (el hs k).A, (el hs k).n, (el hs k).c, (el hs k).ps⟩ : Fl) (⟨(el gs k).nm, (el gs k).A, (el gs k).n, (el gs k).c, (el gs k).ps⟩ : Fl) _ (hR47.more (by omega)) (by dsimp only; omega) (hR49.more (by omega)) (by dsimp only; omega)) ?_)
        rintro _ w51 ⟨rfl, hch52⟩
        have hsz53 := hch52.size
        replace hRhs := hRhs.ch0 hch52
        replace hDhs := hDhs.ch0 hch52
        replace hRgs := hRgs.ch0 hch52
        replace hDgs := hDgs.ch0 hch52
        replace hR47 := hR47.ch0 hch52
        replace hR49 := hR49.ch0 hch52
        replace hc := hc.step0 hch52
        replace hr45 := hr45.step0 hch52
        refine ⟨fun _ => hr45, ?_⟩
        refine tw_free rfl (w0 rfl) rfl rfl (fun u hu => (pv_not rfl rfl : PV _ _ _ _) u) ?_
        try clear hDgs_r
        try clear hDhs_r
        try clear hR47_r
        try clear hR49_r
        try clear hRgs_r
        try clear hRhs_r
        refine tw_done (hK44 _ _ ?_)
        refine hK39 _ _ ?_
        refine cw_cond rfl (fun h54 => ?_) (fun h54 => ?_)
        · -- then
          replace h54 := not_t h54
          replace h54 := dec_f h54
          refine cw_seq fun K55 hK56 => ?_
          refine cw_region fun K57 hK58 => ?_
          refine rw_cons (op_pv (w0 rfl) rfl rfl (pv_assign (v := (.bool false)) rfl rfl) ?_)
          refine rw_nil (hK58 _ _ ?_)
          refine hK56 _ _ ?_
          refine cw_ret ?_
          refine fin1 rfl ?_
          exact ⟨(bvf (fun h9 => absurd (fvs_el h9 (k := k) (by omega)) (by assumption))), hc⟩
        · -- else
          replace h54 := not_f h54
          replace h54 := dec_t h54
          refine cw_skip ?_
          refine hK37 _ _ ?_
          refine cw_region fun K59 hK60 => ?_
          refine rw_cons (op_pv (w0 rfl) rfl rfl (pv_move (v := (.int .i64 (k : Int))) rfl rfl) ?_)
          refine rw_cons (op_pv (w0 rfl) rfl rfl (pv_add rfl rfl rfl (by omega) (by omega)) ?_)
          refine rw_cons (op_pv (w0 rfl) rfl rfl (pv_assign (v := (.int .i64 ((k : Int) + 1))) rfl rfl) ?_)
          refine rw_nil (hK60 _ _ ?_)
          refine hK24 _ _ (k + 1) ⟨(iv (by omega)), rfl, rfl, trivial⟩ ⟨?_, hRhs, hDhs, hRgs, hDgs, hc⟩ ?_
          · refine ⟨by omega, fun j hj => ?_⟩
            by_cases hjk : j = k
            · subst hjk; assumption
            · exact hye j (by omega)
          · (first | omega | (simp only []; omega))
      · -- else
        replace h35 := of_decide_eq_false h35
        refine cw_exit ?_
        refine hK17 _ _ ?_
        refine cw_seq fun K61 hK62 => ?_
        refine cw_region fun K63 hK64 => ?_
        refine rw_cons (op_pv (w0 rfl) rfl rfl (pv_assign (v := (.bool true)) rfl rfl) ?_)
        refine rw_nil (hK64 _ _ ?_)
        refine hK62 _ _ ?_
        refine cw_ret ?_
        refine fin1 rfl ?_
        exact ⟨(bvt (fvs_eq (by omega) (fun j hj => hye j (by omega)))), hc⟩
end Go.Proofs.Ythgnlljpjpklpaa

/-
  The walk of spec.l21Many, written by program: each line names the law of one operation. Conditions: those of the theorem.
-/
import Derived.Test.YthgnlljpjpklpaaProg
import Derived.Test.YthgnlljpjpklpaaDeep
import Derived.KernelRfl
namespace Go.Proofs.Ythgnlljpjpklpaa
open Go Go.RowKit
set_option linter.unusedVariables false
set_option linter.unusedSimpArgs false
namespace l21Many_okF
theorem T3 : TI Try.prog 3 false (.int .i64 0) 1 8 := TI.mk' Try.underlying3 rfl (by kernel_rfl)
theorem T25 : TI Try.prog 25 false (.slice none 0 0) 1 24 := TI.mk' Try.underlying25 rfl (by kernel_rfl)
theorem T48 : TI Try.prog 48 true (.agg #[.string { data := #[] }, .slice none 0 0]) 2 40 := TI.mk' Try.underlying48 rfl (by kernel_rfl)
theorem F48_1 : FldOK Try.prog 48 1 1 := ⟨_, _, 0, Try.underlying48, rfl, rfl, by kernel_rfl⟩
end l21Many_okF
open l21Many_okF in
set_option maxHeartbeats 4000000 in
theorem l21Many_ok (Ahs : Option Addr) (nhs chs : Nat) (hs : List Fl) (x : Int) (w : World) (hRhs : RS encF 2 w w.heap.size Ahs nhs hs) (hDhs : DX 0 w.heap.size [] w hs) (hZhs : SzOK hs) (hNhs : nhs ≤ 1099511627776) (h8 : nhs ≤ 1048576) :
    Fn Try.prog 59 [(.slice Ahs nhs chs), (.int .i64 x)] w fun v w' => v = .int .i64 ((many (fvs hs) x : Nat) : Int) ∧ Ch [] w w' := by
  have hlenhs := hRhs.len
  refine fn_of (n := 37) Try.func59 rfl rfl rfl rfl ?_
  have hc : Ch [] w w := Ch.refl _ _
  refine cw_seq fun K1 hK2 => ?_
  refine cw_region fun K3 hK4 => ?_
  refine rw_cons (op_pv (w0 rfl) rfl rfl (pv_assign (v := (.int .i64 0)) rfl rfl) ?_)
  refine rw_nil (hK4 _ _ ?_)
  refine hK2 _ _ ?_
  refine cw_seq fun K5 hK6 => ?_
  refine cw_region fun K7 hK8 => ?_
  refine rw_cons (op_pv (w0 rfl) rfl rfl (pv_assign (v := (.int .i64 0)) rfl rfl) ?_)
  refine rw_nil (hK8 _ _ ?_)
  refine hK6 _ _ ?_
  refine cw_seq fun K9 hK10 => ?_
  refine cw_seq fun K11 hK12 => ?_
  refine cw_region fun K13 hK14 => ?_
  refine rw_cons (op_pv (w0 rfl) rfl rfl (pv_assign (v := (.int .i64 0)) rfl rfl) ?_)
  refine rw_nil (hK14 _ _ ?_)
  refine hK12 _ _ ?_
  refine cw_block ?_
  refine cw_loop (σ := Nat) (fun i => [(5, (.int .i64 ((many ((fvs hs).take i) x : Nat) : Int))), (6, (.int .i64 (i : Int))), (0, (.slice Ahs nhs chs)), (1, (.int .i64 x)), (4, (.int .i64 0))]) (fun i W => (i ≤ nhs) ∧ RS encF 2 W w.heap.size Ahs nhs hs ∧ DX 0 w.heap.size ([]) W hs ∧ Ch [] w W) (fun i => nhs - i) 0 ?_ ?_ ?_
  · exact ⟨rfl, rfl, rfl, rfl, rfl, trivial⟩
  · refine ⟨Nat.zero_le _, hRhs, hDhs, hc⟩
  · rintro i J19 w15 ⟨hi, hRhs, hDhs, hc⟩ K16 hK17
    have hsz21 := hc.size
    have hzi := hZhs i; have hmb := many_take_bd (x := x) hZhs hDhs i (by omega)
    refine cw_seq fun K22 hK23 => ?_
    refine cw_seq fun K24 hK25 => ?_
    refine cw_region fun K26 hK27 => ?_
    refine rw_cons (op_pv (w0 rfl) rfl rfl (pv_move (v := (.int .i64 (i : Int))) rfl rfl) ?_)
    refine rw_cons (op_pv (w0 rfl) rfl rfl (pv_move (v := (.slice Ahs nhs chs)) rfl rfl) ?_)
    refine rw_cons (op_pv (w0 rfl) rfl rfl (pv_len Try.underlying24 rfl rfl) ?_)
    refine rw_cons (op_pv (w0 rfl) rfl rfl (pv_lss rfl rfl rfl) ?_)
    refine rw_nil (hK27 _ _ ?_)
    refine hK25 _ _ ?_
    refine cw_cond rfl (fun h28 => ?_) (fun h28 => ?_)
    · -- then
      replace h28 := of_decide_eq_true h28
      refine cw_skip ?_
      refine hK23 _ _ ?_
      refine cw_seq fun K29 hK30 => ?_
      refine cw_block ?_
      refine cw_seq fun K31 hK32 => ?_
      refine cw_region fun K33 hK34 => ?_
      refine rw_cons (op_pv (w0 rfl) rfl rfl (pv_assign (v := (.int .i64 0)) rfl rfl) ?_)
      refine rw_nil (hK34 _ _ ?_)
      refine hK32 _ _ ?_
      refine cw_block ?_
      refine cw_loop (σ := Nat) (fun j => [(5, (.int .i64 ((many ((fvs hs).take i) x + ((el hs i).ps.take j).count x : Nat) : Int))), (7, (.int .i64 (j : Int))), (0, (.slice Ahs nhs chs)), (1, (.int .i64 x)), (4, (.int .i64 0)), (6, (.int .i64 (i : Int))), (8, (.int .i64 (i : Int))), (9, (.slice Ahs nhs chs)), (10, (.int .i64 (nhs : Int))), (11, (.bool (decide ((i : Int) < (nhs : Int)))))]) (fun j W => (j ≤ (el hs i).n) ∧ RS encF 2 W w.heap.size Ahs nhs hs ∧ DX 0 w.heap.size ([]) W hs ∧ Ch [] w W) (fun j => (el hs i).n - j) 0 ?_ ?_ ?_
      · exact ⟨(iv (by simp)), rfl, rfl, rfl, rfl, rfl, rfl, rfl, rfl, rfl, trivial⟩
      · refine ⟨Nat.zero_le _, hRhs, hDhs, hc⟩
      · rintro j J39 w35 ⟨hj, hRhs, hDhs, hc⟩ K36 hK37
        have hsz41 := hc.size
        have hcj := List.count_le_length (a := x) (l := (el hs i).ps.take j); have hcl := List.length_take_le j (el hs i).ps
        refine cw_seq fun K42 hK43 => ?_
        refine cw_seq fun K44 hK45 => ?_
        refine cw_region fun K46 hK47 => ?_
        refine rw_cons (op_pv (w0 rfl) rfl rfl (pv_move (v := (.int .i64 (j : Int))) rfl rfl) ?_)
        refine rw_cons (op_pv (w0 rfl) rfl rfl (pv_move (v := (.slice Ahs nhs chs)) rfl rfl) ?_)
        refine rw_cons (op_pv (w0 rfl) rfl rfl (pv_move (v := (.int .i64 (i : Int))) rfl rfl) ?_)
        refine rw_cons (op_pv (w0 rfl) rfl rfl (pv_idx Try.underlying24 T48 rfl rfl rfl (hRhs.some (k := i) (by omega)) (by omega) (by omega)) ?_)
        refine rw_cons (op_pv (w0 rfl) rfl rfl (pv_fld F48_1 rfl rfl) ?_)
        have hR48 : RS encI 1 w35 w.heap.size (el hs i).A (el hs i).n (el hs i).ps := hDhs.rs (k := i) (by omega)
        have hln49 := hR48.len
        refine rw_cons (op_lv (w0 rfl) rfl rfl (lv_load T25 rfl rfl (hRhs.cellE (k := i) (j := 1) (by omega) rfl)) ?_)
        refine rw_cons (op_pv (w0 rfl) rfl rfl (pv_len Try.underlying25 rfl rfl) ?_)
        refine rw_cons (op_pv (w0 rfl) rfl rfl (pv_lss rfl rfl rfl) ?_)
        refine rw_nil (hK47 _ _ ?_)
        refine hK45 _ _ ?_
        refine cw_cond rfl (fun h50 => ?_) (fun h50 => ?_)
        · -- then
          replace h50 := of_decide_eq_true h50
          refine cw_skip ?_
          refine hK43 _ _ ?_
          refine cw_seq fun K51 hK52 => ?_
          refine cw_block ?_
          refine cw_seq fun K53 hK54 => ?_
          refine cw_region fun K55 hK56 => ?_
          refine rw_cons (op_pv (w0 rfl) rfl rfl (pv_move (v := (.slice Ahs nhs chs)) rfl rfl) ?_)
          refine rw_cons (op_pv (w0 rfl) rfl rfl (pv_move (v := (.int .i64 (i : Int))) rfl rfl) ?_)
          refine rw_cons (op_pv (w0 rfl) rfl rfl (pv_idx Try.underlying24 T48 rfl rfl rfl (hRhs.some (k := i) (by omega)) (by omega) (by omega)) ?_)
          refine rw_cons (op_pv (w0 rfl) rfl rfl (pv_fld F48_1 rfl rfl) ?_)
          have hR57 : RS encI 1 w35 w.heap.size (el hs i).A (el hs i).n (el hs i).ps := hDhs.rs (k := i) (by omega)
          have hln58 := hR57.len
          refine rw_cons (op_lv (w0 rfl) rfl rfl (lv_load T25 rfl rfl (hRhs.cellE (k := i) (j := 1) (by omega) rfl)) ?_)
          refine rw_cons (op_pv (w0 rfl) rfl rfl (pv_move (v := (.int .i64 (j : Int))) rfl rfl) ?_)
          refine rw_cons (op_pv (w0 rfl) rfl rfl (pv_idx Try.underlying25 T3 rfl rfl rfl (hR57.some (k := j) (by omega)) (by omega) (by omega)) ?_)
          refine rw_cons (op_lv (w0 rfl) rfl rfl (lv_load T3 rfl rfl (hR57.cell0 (k := j) (by omega) rfl)) ?_)
          refine rw_cons (op_pv (w0 rfl) rfl rfl (pv_move (v := (.int .i64 x)) rfl rfl) ?_)
          refine rw_cons (op_pv (w0 rfl) rfl rfl (pv_eql rfl rfl rfl) ?_)
          refine rw_nil (hK56 _ _ ?_)
          refine hK54 _ _ ?_
          refine cw_cond rfl (fun h59 => ?_) (fun h59 => ?_)
          · -- then
            replace h59 := of_decide_eq_true h59
            refine cw_region fun K60 hK61 => ?_
            refine rw_cons (op_pv (w0 rfl) rfl rfl (pv_move (v := (.int .i64 ((many ((fvs hs).take i) x + ((el hs i).ps.take j).count x : Nat) : Int))) rfl rfl) ?_)
            refine rw_cons (op_pv (w0 rfl) rfl rfl (pv_add rfl rfl rfl (by omega) (by omega)) ?_)
            refine rw_cons (op_pv (w0 rfl) rfl rfl (pv_assign (v := (.int .i64 (((many ((fvs hs).take i) x + ((el hs i).ps.take j).count x : Nat) : Int) + 1))) rfl rfl) ?_)
            refine rw_nil (hK61 _ _ ?_)
            refine hK52 _ _ ?_
            refine cw_region fun K62 hK63 => ?_
            refine rw_cons (op_pv (w0 rfl) rfl rfl (pv_move (v := (.int .i64 (j : Int))) rfl rfl) ?_)
            refine rw_cons (op_pv (w0 rfl) rfl rfl (pv_add rfl rfl rfl (by omega) (by omega)) ?_)
            refine rw_cons (op_pv (w0 rfl) rfl rfl (pv_assign (v := (.int .i64 ((j : Int) + 1))) rfl rfl) ?_)
            refine rw_nil (hK63 _ _ ?_)
            refine hK37 _ _ (j + 1) ⟨(iv (by rw [count_next (by omega)]; first | (rw [if_pos (by assumption)]; omega) | (rw [if_neg (by assumption)]; omega))), (iv (by omega)), rfl, rfl, rfl, rfl, rfl, rfl, rfl, rfl, trivial⟩ ⟨?_, hRhs, hDhs, hc⟩ ?_
            · omega
            · (first | omega | (simp only []; omega))
          · -- else
            replace h59 := of_decide_eq_false h59
            refine cw_skip ?_
            refine hK52 _ _ ?_
            refine cw_region fun K64 hK65 => ?_
            refine rw_cons (op_pv (w0 rfl) rfl rfl (pv_move (v := (.int .i64 (j : Int))) rfl rfl) ?_)
            refine rw_cons (op_pv (w0 rfl) rfl rfl (pv_add rfl rfl rfl (by omega) (by omega)) ?_)
            refine rw_cons (op_pv (w0 rfl) rfl rfl (pv_assign (v := (.int .i64 ((j : Int) + 1))) rfl rfl) ?_)
            refine rw_nil (hK65 _ _ ?_)
            refine hK37 _ _ (j + 1) ⟨(iv (by rw [count_next (by omega)]; first | (rw [if_pos (by assumption)]; omega) | (rw [if_neg (by assumption)]; omega))), (iv (by omega)), rfl, rfl, rfl, rfl, rfl, rfl, rfl, rfl, trivial⟩ ⟨?_, hRhs, hDhs, hc⟩ ?_
            · omega
            · (first | omega | (simp only []; omega))
        · -- else
          replace h50 := of_decide_eq_false h50
          refine cw_exit ?_
          refine hK30 _ _ ?_
          refine cw_region fun K66 hK67 => ?_
          refine rw_cons (op_pv (w0 rfl) rfl rfl (pv_move (v := (.int .i64 (i : Int))) rfl rfl) ?_)
          refine rw_cons (op_pv (w0 rfl) rfl rfl (pv_add rfl rfl rfl (by omega) (by omega)) ?_)
          refine rw_cons (op_pv (w0 rfl) rfl rfl (pv_assign (v := (.int .i64 ((i : Int) + 1))) rfl rfl) ?_)
          refine rw_nil (hK67 _ _ ?_)
          refine hK17 _ _ (i + 1) ⟨(iv (by rw [many_next (by omega), el_take_all _ j (by omega)])), (iv (by omega)), rfl, rfl, rfl, trivial⟩ ⟨?_, hRhs, hDhs, hc⟩ ?_
          · omega
          · (first | omega | (simp only []; omega))
    · -- else
      replace h28 := of_decide_eq_false h28
      refine cw_exit ?_
      refine hK10 _ _ ?_
      refine cw_seq fun K68 hK69 => ?_
      refine cw_region fun K70 hK71 => ?_
      refine rw_cons (op_pv (w0 rfl) rfl rfl (pv_move (v := (.int .i64 ((many ((fvs hs).take i) x : Nat) : Int))) rfl rfl) ?_)
      refine rw_cons (op_pv (w0 rfl) rfl rfl (pv_assign (v := (.int .i64 ((many ((fvs hs).take i) x : Nat) : Int))) rfl rfl) ?_)
      refine rw_nil (hK71 _ _ ?_)
      refine hK69 _ _ ?_
      refine cw_ret ?_
      refine fin1 rfl ?_
      exact ⟨(iv (by rw [el_take_all _ i (by rw [fvs_len]; omega)])), hc⟩
end Go.Proofs.Ythgnlljpjpklpaa

/-
  The walk of impl.treeOf, written by program: each line names the law of one operation. Conditions: those of the theorem.
-/
import Derived.Test.YthgnlljpjpklpaaProg
import Derived.Test.YthgnlljpjpklpaaDeep
import Derived.Test.YthgnlljpjpklpaaFimplpieceTreewithnode
import Derived.KernelRfl
namespace Go.Proofs.Ythgnlljpjpklpaa
open Go Go.RowKit
set_option linter.unusedVariables false
set_option linter.unusedSimpArgs false
namespace treeOf_okF
theorem T3 : TI Try.prog 3 false (.int .i64 0) 1 8 := TI.mk' Try.underlying3 rfl (by kernel_rfl)
theorem T25 : TI Try.prog 25 false (.slice none 0 0) 1 24 := TI.mk' Try.underlying25 rfl (by kernel_rfl)
theorem T48 : TI Try.prog 48 true (.agg #[.string { data := #[] }, .slice none 0 0]) 2 40 := TI.mk' Try.underlying48 rfl (by kernel_rfl)
theorem F48_1 : FldOK Try.prog 48 1 1 := ⟨_, _, 0, Try.underlying48, rfl, rfl, by kernel_rfl⟩
theorem C67 : Callable Try.prog 67 := ⟨_, Try.func67, by kernel_rfl, by kernel_rfl⟩
end treeOf_okF
open treeOf_okF in
set_option maxHeartbeats 4000000 in
theorem treeOf_ok (Ahs : Option Addr) (nhs chs : Nat) (hs : List Fl) (w : World) (hRhs : RS encF 2 w w.heap.size Ahs nhs hs) (hDhs : DX 0 w.heap.size [] w hs) (hNhs : nhs ≤ 1099511627776) (hZhs : SzOK hs) :
    Fn Try.prog 56 [(.slice Ahs nhs chs)] w fun v w' => ∃ p t b, v = .tuple #[.pointer p, .bool b] ∧ PT.OK 80 w.heap.size w' t p ∧ (∀ y, y ∈ t.nums ↔ y ∈ pcs (fvs hs)) ∧ (b = true ↔ (pcs (fvs hs)).Nodup) ∧ Ch [] w w' := by
  have hlenhs := hRhs.len
  refine fn_of (n := 38) Try.func56 rfl rfl rfl rfl ?_
  have hc : Ch [] w w := Ch.refl _ _
  refine cw_seq fun K1 hK2 => ?_
  refine cw_region fun K3 hK4 => ?_
  refine rw_cons (op_pv (w0 rfl) rfl rfl (pv_assign (v := (.pointer none)) rfl rfl) ?_)
  refine rw_cons (op_pv (w0 rfl) rfl rfl (pv_assign (v := (.bool false)) rfl rfl) ?_)
  refine rw_nil (hK4 _ _ ?_)
  refine hK2 _ _ ?_
  refine cw_seq fun K5 hK6 => ?_
  refine cw_region fun K7 hK8 => ?_
  refine rw_cons (op_pv (w0 rfl) rfl rfl (pv_assign (v := (.pointer none)) rfl rfl) ?_)
  refine rw_nil (hK8 _ _ ?_)
  refine hK6 _ _ ?_
  refine cw_seq fun K9 hK10 => ?_
  refine cw_region fun K11 hK12 => ?_
  refine rw_cons (op_pv (w0 rfl) rfl rfl (pv_assign (v := (.bool true)) rfl rfl) ?_)
  refine rw_nil (hK12 _ _ ?_)
  refine hK10 _ _ ?_
  refine cw_seq fun K13 hK14 => ?_
  refine cw_seq fun K15 hK16 => ?_
  refine cw_region fun K17 hK18 => ?_
  refine rw_cons (op_pv (w0 rfl) rfl rfl (pv_move (v := (.slice Ahs nhs chs)) rfl rfl) ?_)
  refine rw_cons (op_pv (w0 rfl) rfl rfl (pv_len Try.underlying24 rfl rfl) ?_)
  refine rw_cons (op_pv (w0 rfl) rfl rfl (pv_move (v := (.int .i64 0)) rfl rfl) ?_)
  refine rw_nil (hK18 _ _ ?_)
  refine hK16 _ _ ?_
  refine cw_block ?_
  refine cw_loop (σ := Nat × (Option Addr) × PT × Bool) (fun ⟨i, p, t, b⟩ => [(4, (.pointer p)), (5, (.bool b)), (13, (.int .i64 (i : Int))), (2, (.pointer none)), (3, (.bool false)), (11, (.slice Ahs nhs chs)), (12, (.int .i64 (nhs : Int)))]) (fun ⟨i, p, t, b⟩ W => (i ≤ nhs ∧ (∀ y, y ∈ t.nums ↔ y ∈ pcs ((fvs hs).take i)) ∧ (b = true ↔ (pcs ((fvs hs).take i)).Nodup)) ∧ RS encF 2 W w.heap.size Ahs nhs hs ∧ DX 0 w.heap.size ([]) W hs ∧ PT.OK 80 w.heap.size W t p ∧ Ch [] w W) (fun ⟨i, p, t, b⟩ => nhs - i) (0, none, .leaf, true) ?_ ?_ ?_
  · exact ⟨rfl, rfl, rfl, rfl, rfl, rfl, rfl, trivial⟩
  · refine ⟨⟨Nat.zero_le _, fun y => by simp [PT.nums, pcs], by simp [pcs]⟩, hRhs, hDhs, (PT.OK.leaf _ _ _), hc⟩
  · rintro ⟨i, p, t, b⟩ J23 w19 ⟨⟨hi, hnum, hb⟩, hRhs, hDhs, hT, hc⟩ K20 hK21
    have hsz25 := hc.size
    have hubT26 := hT.is.lt
    refine cw_seq fun K27 hK28 => ?_
    refine cw_region fun K29 hK30 => ?_
    refine rw_cons (op_pv (w0 rfl) rfl rfl (pv_lss rfl rfl rfl) ?_)
    refine rw_nil (hK30 _ _ ?_)
    refine hK28 _ _ ?_
    refine cw_seq fun K31 hK32 => ?_
    refine cw_cond rfl (fun h33 => ?_) (fun h33 => ?_)
    · -- then
      replace h33 := of_decide_eq_true h33
      refine cw_skip ?_
      refine hK32 _ _ ?_
      refine cw_seq fun K34 hK35 => ?_
      refine cw_block ?_
      refine cw_seq fun K36 hK37 => ?_
      refine cw_region fun K38 hK39 => ?_
      refine rw_cons (op_pv (w0 rfl) rfl rfl (pv_idx Try.underlying24 T48 rfl rfl rfl (hRhs.some (k := i) (by omega)) (by omega) (by omega)) ?_)
      have hR40 : RS encI 1 w19 w.heap.size (el hs i).A (el hs i).n (el hs i).ps := hDhs.rs (k := i) (by omega)
      have hln41 := hR40.len
      refine rw_cons (op_lv (w0 rfl) rfl rfl (lv_loadN T48 rfl rfl rfl (fun j v hv => hRhs.cellE (k := i) (by omega) hv)) ?_)
      refine rw_cons (op_alloc T48 (w0 rfl) rfl rfl rfl ?_)
      rintro g43 w42 hg46 hg47 hB45 hch44
      have hsz48 := hch44.size
      replace hRhs := hRhs.ch0 hch44
      replace hDhs := hDhs.ch0 hch44
      replace hT := hT.ch0 hch44
      replace hR40 := hR40.ch0 hch44
      replace hc := hc.step0 hch44
      replace hB45 : Blk w42 g43 48 [(.string ByteArray.empty), (.slice none 0 0)] := hB45
      refine rw_cons (op_store_blk T48 hB45 (w0 rfl) rfl rfl rfl rfl rfl (one_all rfl) (Nat.le_of_ble_eq_true rfl) ?_)
      rintro w49 hB51 hch50
      have hsz52 := hch50.size
      replace hRhs := hRhs.ch hch50 (off1 (by omega))
      replace hDhs := hDhs.ch hch50 (fun s hs => by simp at hs; subst hs; first | omega | (right; left; simp; done))
      replace hT := hT.ch hch50 (fun s h1 h2 => by simp at h2; have := hubT26 s h1; omega)
      replace hR40 := hR40.ch hch50 (off1 (by omega))
      replace hc := (off1 (by omega)).step hc hch50
      replace hB45 : Blk w49 g43 48 [(.string (el hs i).nm), (.slice (el hs i).A (el hs i).n (el hs i).c)] := hB51
      clear hB51
      refine rw_nil (hK39 _ _ ?_)
      refine hK37 _ _ ?_
      refine cw_seq fun K53 hK54 => ?_
      have hNpi := hZhs i (by omega)
      refine cw_region fun K55 hK56 => ?_
      refine rw_cons (op_pv (w0 rfl) rfl rfl (pv_fld F48_1 rfl rfl) ?_)
      refine rw_cons (op_lv (w0 rfl) rfl rfl (lv_load T25 rfl rfl (hB45.cellA (i := 1) rfl)) ?_)
      refine rw_cons (op_pv (w0 rfl) rfl rfl (pv_len Try.underlying25 rfl rfl) ?_)
      refine rw_cons (op_pv (w0 rfl) rfl rfl (pv_move (v := (.int .i64 0)) rfl rfl) ?_)
      refine rw_nil (hK56 _ _ ?_)
      refine hK54 _ _ ?_
      refine cw_block ?_
      refine cw_loop (σ := Nat × (Option Addr) × PT × Bool) (fun ⟨j, p2, t2, b2⟩ => [(4, (.pointer p2)), (5, (.bool b2)), (20, (.int .i64 (j : Int))), (2, (.pointer none)), (3, (.bool false)), (7, (.pointer (some (⟨g43, 0, none⟩)))), (11, (.slice Ahs nhs chs)), (12, (.int .i64 (nhs : Int))), (13, (.int .i64 (i : Int))), (14, (.bool (decide ((i : Int) < (nhs : Int))))), (15, (.pointer (some ((adr Ahs).add (i * 2))))), (16, (.agg #[(.string (el hs i).nm), (.slice (el hs i).A (el hs i).n (el hs i).c)])), (17, (.pointer (some ((⟨g43, 0, none⟩ : Addr).add 1)))), (18, (.slice (el hs i).A (el hs i).n (el hs i).c)), (19, (.int .i64 ((el hs i).n : Int)))]) (fun ⟨j, p2, t2, b2⟩ W => (j ≤ (el hs i).n ∧ (∀ y, y ∈ t2.nums ↔ y ∈ pcs ((fvs hs).take i) ++ (el hs i).ps.take j) ∧ (b2 = true ↔ (pcs ((fvs hs).take i) ++ (el hs i).ps.take j).Nodup)) ∧ RS encF 2 W w.heap.size Ahs nhs hs ∧ DX 0 w.heap.size ([]) W hs ∧ RS encI 1 W w.heap.size (el hs i).A (el hs i).n (el hs i).ps ∧ PT.OK 80 w.heap.size W t2 p2 ∧ Ch [] w W) (fun ⟨j, p2, t2, b2⟩ => (el hs i).n - j) (0, p, t, b) ?_ ?_ ?_
      · exact ⟨rfl, rfl, rfl, rfl, rfl, rfl, rfl, rfl, rfl, rfl, rfl, rfl, rfl, rfl, rfl, trivial⟩
      · refine ⟨⟨Nat.zero_le _, by simpa using hnum, by simpa using hb⟩, hRhs, hDhs, hR40, hT, hc⟩
      · rintro ⟨j, p2, t2, b2⟩ J61 w57 ⟨⟨hj, hnum2, hb2⟩, hRhs, hDhs, hR40, hT, hc⟩ K58 hK59
        have hsz63 := hc.size
        have hubT64 := hT.is.lt
        refine cw_seq fun K65 hK66 => ?_
        refine cw_region fun K67 hK68 => ?_
        refine rw_cons (op_pv (w0 rfl) rfl rfl (pv_lss rfl rfl rfl) ?_)
        refine rw_nil (hK68 _ _ ?_)
        refine hK66 _ _ ?_
        refine cw_seq fun K69 hK70 => ?_
        refine cw_cond rfl (fun h71 => ?_) (fun h71 => ?_)
        · -- then
          replace h71 := of_decide_eq_true h71
          refine cw_skip ?_
          refine hK70 _ _ ?_
          refine cw_seq fun K72 hK73 => ?_
          refine cw_block ?_
          refine cw_seq fun K74 hK75 => ?_
          refine cw_region fun K76 hK77 => ?_
          refine rw_cons (op_pv (w0 rfl) rfl rfl (pv_idx Try.underlying25 T3 rfl rfl rfl (hR40.some (k := j) (by omega)) (by omega) (by omega)) ?_)
          refine rw_cons (op_lv (w0 rfl) rfl rfl (lv_load T3 rfl rfl (hR40.cell0 (k := j) (by omega) rfl)) ?_)
          refine rw_cons (op_pv (w0 rfl) rfl rfl (pv_assign (v := (.int .i64 (el (el hs i).ps j))) rfl rfl) ?_)
          refine rw_nil (hK77 _ _ ?_)
          refine hK75 _ _ ?_
          refine cw_seq fun K78 hK79 => ?_
          refine cw_region fun K80 hK81 => ?_
          refine rw_cons (op_pv (w0 rfl) rfl rfl (pv_assign (v := (.bool false)) rfl rfl) ?_)
          refine rw_nil (hK81 _ _ ?_)
          refine hK79 _ _ ?_
          refine cw_seq fun K82 hK83 => ?_
          refine cw_region fun K84 hK85 => ?_
          refine rw_cons (op_pv (w0 rfl) rfl rfl (pv_move (v := (.pointer p2)) rfl rfl) ?_)
          refine rw_cons (op_pv (w0 rfl) rfl rfl (pv_move (v := (.int .i64 (el (el hs i).ps j))) rfl rfl) ?_)
          refine rw_cons (op_call (w0 rfl) rfl rfl (rc_call C67 rfl rfl) (with_ok _ _ _ _ _ hT (by omega)) ?_)
          rintro _ w86 ⟨p87, b88, t89, rfl, hT90, hbl91, hnum92, hb93, hch94⟩
          have hoff95 := hT.off
          have hsz96 := hch94.size
          replace hRhs := hRhs.ch hch94 (hoff95.le (by omega))
          replace hDhs := hDhs.ch hch94 (fun s hs => .inr (.inr (Nat.le_trans (by omega) (hoff95 s hs))))
          replace hR40 := hR40.ch hch94 (hoff95.le (by omega))
          replace hc := (hoff95.le (by omega)).step hc hch94
          clear hT; have hT : PT.OK 80 w.heap.size w86 t89 p87 := hT90; clear hT90
          have hubT97 := hT.is.lt
          refine rw_cons (op_pv (w0 rfl) rfl rfl (pv_move (v := (.tuple #[(.pointer p87), (.bool b88)])) rfl rfl) ?_)
          refine rw_cons (op_pv (w0 rfl) rfl rfl (pv_ext (v := (.pointer p87)) rfl rfl rfl) ?_)
          refine rw_cons (op_pv (w0 rfl) rfl rfl (pv_ext (v := (.bool b88)) rfl rfl rfl) ?_)
          refine rw_cons (op_pv (w0 rfl) rfl rfl (pv_assign (v := (.pointer p87)) rfl rfl) ?_)
          refine rw_cons (op_pv (w0 rfl) rfl rfl (pv_assign (v := (.bool b88)) rfl rfl) ?_)
          refine rw_nil (hK85 _ _ ?_)
          refine hK83 _ _ ?_
          refine cw_region fun K98 hK99 => ?_
          refine rw_cons (op_pv (w0 rfl) rfl rfl (pv_move (v := (.bool b2)) rfl rfl) ?_)
          refine rw_cons (op_pv (w0 rfl) rfl rfl (pv_move (v := (.bool b2)) rfl rfl) ?_)
          refine rw_split 31 rfl (fun hb100 => ?_) (fun hb100 => ?_)
          · -- yes
            refine rw_cons (op_pv (w1y rfl rfl rfl rfl) rfl rfl (pv_move (v := (.bool b88)) rfl rfl) ?_)
            refine rw_cons (op_pv (w0 rfl) rfl rfl (pv_pickT (v := (.bool b88)) rfl rfl rfl) ?_)
            refine rw_cons (op_pv (w0 rfl) rfl rfl (pv_assign (v := (.bool b88)) rfl rfl) ?_)
            refine rw_nil (hK99 _ _ ?_)
            refine hK73 _ _ ?_
            refine cw_region fun K101 hK102 => ?_
            refine rw_cons (op_pv (w0 rfl) rfl rfl (pv_add rfl rfl rfl (by omega) (by omega)) ?_)
            refine rw_cons (op_pv (w0 rfl) rfl rfl (pv_move (v := (.int .i64 ((j : Int) + 1))) rfl rfl) ?_)
            refine rw_nil (hK102 _ _ ?_)
            refine hK59 _ _ (j + 1, p87, t89, b88) ⟨rfl, rfl, (iv (by omega)), rfl, rfl, rfl, rfl, rfl, rfl, rfl, rfl, rfl, rfl, rfl, rfl, trivial⟩ ⟨?_, hRhs, hDhs, hR40, hT, hc⟩ ?_
            · have hln9 : (el hs i).ps.length = (el hs i).n := by omega
              refine ⟨by omega, ?_⟩
              exact tree_step (b3 := b88) (by omega) hnum2 hb2 hnum92 hb93 (by first | rfl | simp_all)
            · (first | omega | (simp only []; omega))
          · -- no
            refine rw_cons (op_pass (w1n1 rfl rfl rfl rfl) rfl rfl ?_)
            refine rw_cons (op_pv (w0 rfl) rfl rfl (pv_pickF (v := (.bool false)) rfl rfl rfl) ?_)
            refine rw_cons (op_pv (w0 rfl) rfl rfl (pv_assign (v := (.bool false)) rfl rfl) ?_)
            refine rw_nil (hK99 _ _ ?_)
            refine hK73 _ _ ?_
            refine cw_region fun K103 hK104 => ?_
            refine rw_cons (op_pv (w0 rfl) rfl rfl (pv_add rfl rfl rfl (by omega) (by omega)) ?_)
            refine rw_cons (op_pv (w0 rfl) rfl rfl (pv_move (v := (.int .i64 ((j : Int) + 1))) rfl rfl) ?_)
            refine rw_nil (hK104 _ _ ?_)
            refine hK59 _ _ (j + 1, p87, t89, false) ⟨rfl, rfl, (iv (by omega)), rfl, rfl, rfl, rfl, rfl, rfl, rfl, rfl, rfl, rfl, rfl, rfl, trivial⟩ ⟨?_, hRhs, hDhs, hR40, hT, hc⟩ ?_
            · have hln9 : (el hs i).ps.length = (el hs i).n := by omega
              refine ⟨by omega, ?_⟩
              exact tree_step (b3 := false) (by omega) hnum2 hb2 hnum92 hb93 (by first | rfl | simp_all)
            · (first | omega | (simp only []; omega))
        · -- else
          replace h71 := of_decide_eq_false h71
          refine cw_exit ?_
          refine hK35 _ _ ?_
          refine cw_region fun K105 hK106 => ?_
          refine rw_cons (op_pv (w0 rfl) rfl rfl (pv_add rfl rfl rfl (by omega) (by omega)) ?_)
          refine rw_cons (op_pv (w0 rfl) rfl rfl (pv_move (v := (.int .i64 ((i : Int) + 1))) rfl rfl) ?_)
          refine rw_nil (hK106 _ _ ?_)
          refine hK21 _ _ (i + 1, p2, t2, b2) ⟨rfl, rfl, (iv (by omega)), rfl, rfl, rfl, rfl, trivial⟩ ⟨?_, hRhs, hDhs, hT, hc⟩ ?_
          · obtain rfl : j = (el hs i).ps.length := by omega
            have e := pcs_take (fs := fvs hs) (k := i) (by rw [fvs_len]; omega)
            rw [el_fvs (by omega)] at e
            rw [List.take_length] at hnum2 hb2
            exact ⟨by omega, fun y => by rw [e]; exact hnum2 y, by rw [e]; exact hb2⟩
          · (first | omega | (simp only []; omega))
    · -- else
      replace h33 := of_decide_eq_false h33
      refine cw_exit ?_
      refine hK14 _ _ ?_
      refine cw_seq fun K107 hK108 => ?_
      refine cw_region fun K109 hK110 => ?_
      refine rw_cons (op_pv (w0 rfl) rfl rfl (pv_move (v := (.pointer p)) rfl rfl) ?_)
      refine rw_cons (op_pv (w0 rfl) rfl rfl (pv_move (v := (.bool b)) rfl rfl) ?_)
      refine rw_cons (op_pv (w0 rfl) rfl rfl (pv_assign (v := (.pointer p)) rfl rfl) ?_)
      refine rw_cons (op_pv (w0 rfl) rfl rfl (pv_assign (v := (.bool b)) rfl rfl) ?_)
      refine rw_nil (hK110 _ _ ?_)
      refine hK108 _ _ ?_
      refine cw_ret ?_
      refine fin2 rfl rfl ?_
      have e : (fvs hs).take i = fvs hs := el_take_all _ _ (by rw [fvs_len]; omega)
      rw [e] at hnum hb
      exact ⟨p, t, b, rfl, hT, hnum, hb, hc⟩
end Go.Proofs.Ythgnlljpjpklpaa

/-
  The walk of impl.fileValid, written by program: each line names the law of one operation. Conditions: those of the theorem.
-/
import Derived.Test.YthgnlljpjpklpaaProg
import Derived.Test.YthgnlljpjpklpaaDeep
import Derived.Test.YthgnlljpjpklpaaFimplidValid
import Derived.KernelRfl
namespace Go.Proofs.Ythgnlljpjpklpaa
open Go Go.RowKit
set_option linter.unusedVariables false
set_option linter.unusedSimpArgs false
namespace fileValid_okF
theorem T3 : TI Try.prog 3 false (.int .i64 0) 1 8 := TI.mk' Try.underlying3 rfl (by kernel_rfl)
theorem T9 : TI Try.prog 9 false (.string { data := #[] }) 1 16 := TI.mk' Try.underlying9 rfl (by kernel_rfl)
theorem T25 : TI Try.prog 25 false (.slice none 0 0) 1 24 := TI.mk' Try.underlying25 rfl (by kernel_rfl)
theorem F48_0 : FldOK Try.prog 48 0 0 := ⟨_, _, 0, Try.underlying48, rfl, rfl, by kernel_rfl⟩
theorem F48_1 : FldOK Try.prog 48 1 1 := ⟨_, _, 0, Try.underlying48, rfl, rfl, by kernel_rfl⟩
theorem C66 : Callable Try.prog 66 := ⟨_, Try.func66, by kernel_rfl, by kernel_rfl⟩
end fileValid_okF
open fileValid_okF in
set_option maxHeartbeats 4000000 in
theorem fileValid_ok (f : Fl) (w : World) (hRf : RS encI 1 w w.heap.size f.A f.n f.ps) (hNf : f.n ≤ 1099511627776) :
    Fn Try.prog 55 [(.agg #[(.string f.nm), (.slice f.A f.n f.c)])] w fun v w' => v = .bool (dec (FileOK (fv f))) ∧ Ch [] w w' := by
  have hlnf := hRf.len
  refine fn_of (n := 52) Try.func55 rfl rfl rfl rfl ?_
  have hc : Ch [] w w := Ch.refl _ _
  refine cw_seq fun K1 hK2 => ?_
  refine cw_region fun K3 hK4 => ?_
  refine rw_cons (op_box (w0 rfl) rfl rfl rfl rfl ?_)
  rintro g6 w5 hg9 hg10 hB8 hch7
  have hsz11 := hch7.size
  replace hRf := hRf.ch0 hch7
  replace hc := hc.step0 hch7
  replace hB8 : Blk w5 g6 48 [(.string f.nm), (.slice f.A f.n f.c)] := hB8
  refine rw_cons (op_pv (w0 rfl) rfl rfl (pv_assign (v := (.bool false)) rfl rfl) ?_)
  refine rw_nil (hK4 _ _ ?_)
  refine hK2 _ _ ?_
  refine cw_seq fun K12 hK13 => ?_
  refine cw_seq fun K14 hK15 => ?_
  refine cw_region fun K16 hK17 => ?_
  refine rw_cons (op_pv (w0 rfl) rfl rfl (pv_fld F48_0 rfl rfl) ?_)
  refine rw_cons (op_lv (w0 rfl) rfl rfl (lv_load T9 rfl rfl (hB8.cellA (i := 0) rfl)) ?_)
  refine rw_cons (op_pv (w0 rfl) rfl rfl (pv_lenS Try.underlying9 rfl rfl) ?_)
  refine rw_cons (op_pv (w0 rfl) rfl rfl (pv_lss rfl rfl rfl) ?_)
  refine rw_cons (op_pv (w0 rfl) rfl rfl (pv_move (v := (.bool (decide ((f.nm.size : Int) < 1)))) rfl rfl) ?_)
  refine rw_split 10 rfl (fun hb18 => ?_) (fun hb18 => ?_)
  · -- yes
    replace hb18 := of_decide_eq_true hb18
    refine rw_cons (op_pass (w1n2 rfl rfl rfl rfl) rfl rfl ?_)
    refine rw_cons (op_pass (w1n2 rfl rfl rfl rfl) rfl rfl ?_)
    refine rw_cons (op_pass (w1n2 rfl rfl rfl rfl) rfl rfl ?_)
    refine rw_cons (op_pass (w1n2 rfl rfl rfl rfl) rfl rfl ?_)
    refine rw_cons (op_pv (w0 rfl) rfl rfl (pv_pickT (v := (.bool true)) rfl rfl rfl) ?_)
    refine rw_cons (op_pv (w0 rfl) rfl rfl (pv_move (v := (.bool true)) rfl rfl) ?_)
    refine rw_cons (op_pass (w1n2 rfl rfl rfl rfl) rfl rfl ?_)
    refine rw_cons (op_pass (w1n2 rfl rfl rfl rfl) rfl rfl ?_)
    refine rw_cons (op_pass (w1n2 rfl rfl rfl rfl) rfl rfl ?_)
    refine rw_cons (op_pass (w1n2 rfl rfl rfl rfl) rfl rfl ?_)
    refine rw_cons (op_pv (w0 rfl) rfl rfl (pv_pickT (v := (.bool true)) rfl rfl rfl) ?_)
    refine rw_nil (hK17 _ _ ?_)
    refine hK15 _ _ ?_
    refine cw_cond rfl (fun h19 => ?_) (fun h19 => ?_)
    · -- then
      clear h19
      refine cw_seq fun K20 hK21 => ?_
      refine cw_region fun K22 hK23 => ?_
      refine rw_cons (op_pv (w0 rfl) rfl rfl (pv_assign (v := (.bool false)) rfl rfl) ?_)
      refine rw_nil (hK23 _ _ ?_)
      refine hK21 _ _ ?_
      refine cw_ret ?_
      refine fin1 rfl ?_
      exact ⟨(bvf (fun h => by have h1 := h.1.1; have h2 := h.2.1; simp only [fv] at h1 h2; omega)), hc⟩
    · -- else
      cases h19
  · -- no
    replace hb18 := of_decide_eq_false hb18
    refine rw_cons (op_pv (w1y rfl rfl rfl rfl) rfl rfl (pv_fld F48_0 rfl rfl) ?_)
    refine rw_cons (op_lv (w1y rfl rfl rfl rfl) rfl rfl (lv_load T9 rfl rfl (hB8.cellA (i := 0) rfl)) ?_)
    refine rw_cons (op_pv (w1y rfl rfl rfl rfl) rfl rfl (pv_lenS Try.underlying9 rfl rfl) ?_)
    refine rw_cons (op_pv (w1y rfl rfl rfl rfl) rfl rfl (pv_gtr rfl rfl rfl) ?_)
    refine rw_cons (op_pv (w0 rfl) rfl rfl (pv_pickF (v := (.bool (decide (6 < (f.nm.size : Int))))) rfl rfl rfl) ?_)
    refine rw_cons (op_pv (w0 rfl) rfl rfl (pv_move (v := (.bool (decide (6 < (f.nm.size : Int))))) rfl rfl) ?_)
    refine rw_split 16 rfl (fun hb24 => ?_) (fun hb24 => ?_)
    · -- yes
      replace hb24 := of_decide_eq_true hb24
      refine rw_cons (op_pass (w1n2 rfl rfl rfl rfl) rfl rfl ?_)
      refine rw_cons (op_pass (w1n2 rfl rfl rfl rfl) rfl rfl ?_)
      refine rw_cons (op_pass (w1n2 rfl rfl rfl rfl) rfl rfl ?_)
      refine rw_cons (op_pass (w1n2 rfl rfl rfl rfl) rfl rfl ?_)
      refine rw_cons (op_pv (w0 rfl) rfl rfl (pv_pickT (v := (.bool true)) rfl rfl rfl) ?_)
      refine rw_nil (hK17 _ _ ?_)
      refine hK15 _ _ ?_
      refine cw_cond rfl (fun h25 => ?_) (fun h25 => ?_)
      · -- then
        clear h25
        refine cw_seq fun K26 hK27 => ?_
        refine cw_region fun K28 hK29 => ?_
        refine rw_cons (op_pv (w0 rfl) rfl rfl (pv_assign (v := (.bool false)) rfl rfl) ?_)
        refine rw_nil (hK29 _ _ ?_)
        refine hK27 _ _ ?_
        refine cw_ret ?_
        refine fin1 rfl ?_
        exact ⟨(bvf (fun h => by have h1 := h.1.1; have h2 := h.2.1; simp only [fv] at h1 h2; omega)), hc⟩
      · -- else
        cases h25
    · -- no
      replace hb24 := of_decide_eq_false hb24
      refine rw_cons (op_pv (w1y rfl rfl rfl rfl) rfl rfl (pv_fld F48_1 rfl rfl) ?_)
      refine rw_cons (op_lv (w1y rfl rfl rfl rfl) rfl rfl (lv_load T25 rfl rfl (hB8.cellA (i := 1) rfl)) ?_)
      refine rw_cons (op_pv (w1y rfl rfl rfl rfl) rfl rfl (pv_len Try.underlying25 rfl rfl) ?_)
      refine rw_cons (op_pv (w1y rfl rfl rfl rfl) rfl rfl (pv_gtr rfl rfl rfl) ?_)
      refine rw_cons (op_pv (w0 rfl) rfl rfl (pv_pickF (v := (.bool (decide (4 < (f.n : Int))))) rfl rfl rfl) ?_)
      refine rw_nil (hK17 _ _ ?_)
      refine hK15 _ _ ?_
      refine cw_cond rfl (fun h30 => ?_) (fun h30 => ?_)
      · -- then
        replace h30 := of_decide_eq_true h30
        refine cw_seq fun K31 hK32 => ?_
        refine cw_region fun K33 hK34 => ?_
        refine rw_cons (op_pv (w0 rfl) rfl rfl (pv_assign (v := (.bool false)) rfl rfl) ?_)
        refine rw_nil (hK34 _ _ ?_)
        refine hK32 _ _ ?_
        refine cw_ret ?_
        refine fin1 rfl ?_
        exact ⟨(bvf (fun h => by have h1 := h.1.1; have h2 := h.2.1; simp only [fv] at h1 h2; omega)), hc⟩
      · -- else
        replace h30 := of_decide_eq_false h30
        refine cw_skip ?_
        refine hK13 _ _ ?_
        refine cw_seq fun K35 hK36 => ?_
        refine cw_seq fun K37 hK38 => ?_
        refine cw_region fun K39 hK40 => ?_
        refine rw_cons (op_pv (w0 rfl) rfl rfl (pv_fld F48_0 rfl rfl) ?_)
        refine rw_cons (op_lv (w0 rfl) rfl rfl (lv_load T9 rfl rfl (hB8.cellA (i := 0) rfl)) ?_)
        refine rw_cons (op_pv (w0 rfl) rfl rfl (pv_lenS Try.underlying9 rfl rfl) ?_)
        refine rw_cons (op_pv (w0 rfl) rfl rfl (pv_move (v := (.int .i64 0)) rfl rfl) ?_)
        refine rw_nil (hK40 _ _ ?_)
        refine hK38 _ _ ?_
        refine cw_block ?_
        refine cw_loop (σ := Nat) (fun k => [(25, (.int .i64 (k : Int))), (1, (.pointer (some (⟨g6, 0, none⟩)))), (24, (.int .i64 (f.nm.size : Int)))]) (fun k W => (k ≤ f.nm.size ∧ ∀ q, q < k → 97 ≤ by8 f.nm q ∧ by8 f.nm q ≤ 122) ∧ RS encI 1 W w.heap.size f.A f.n f.ps ∧ Blk W g6 48 [(.string f.nm), (.slice f.A f.n f.c)] ∧ Ch [] w W) (fun k => f.nm.size - k) 0 ?_ ?_ ?_
        · exact ⟨rfl, rfl, rfl, trivial⟩
        · refine ⟨⟨Nat.zero_le _, fun q hq => by omega⟩, hRf, hB8, hc⟩
        · rintro k J45 w41 ⟨⟨hk, hby⟩, hRf, hB8, hc⟩ K42 hK43
          have hsz47 := hc.size
          refine cw_seq fun K48 hK49 => ?_
          refine cw_region fun K50 hK51 => ?_
          refine rw_cons (op_pv (w0 rfl) rfl rfl (pv_lss rfl rfl rfl) ?_)
          refine rw_nil (hK51 _ _ ?_)
          refine hK49 _ _ ?_
          refine cw_seq fun K52 hK53 => ?_
          refine cw_cond rfl (fun h54 => ?_) (fun h54 => ?_)
          · -- then
            replace h54 := of_decide_eq_true h54
            refine cw_skip ?_
            refine hK53 _ _ ?_
            refine cw_seq fun K55 hK56 => ?_
            refine cw_block ?_
            refine cw_seq fun K57 hK58 => ?_
            refine cw_region fun K59 hK60 => ?_
            refine rw_cons (op_pv (w0 rfl) rfl rfl (pv_move (v := (.int .i64 (k : Int))) rfl rfl) ?_)
            refine rw_cons (op_pv (w0 rfl) rfl rfl (pv_assign (v := (.int .i64 (k : Int))) rfl rfl) ?_)
            refine rw_nil (hK60 _ _ ?_)
            refine hK58 _ _ ?_
            refine cw_seq fun K61 hK62 => ?_
            refine cw_region fun K63 hK64 => ?_
            refine rw_cons (op_pv (w0 rfl) rfl rfl (pv_fld F48_0 rfl rfl) ?_)
            refine rw_cons (op_lv (w0 rfl) rfl rfl (lv_load T9 rfl rfl (hB8.cellA (i := 0) rfl)) ?_)
            refine rw_cons (op_pv (w0 rfl) rfl rfl (pv_move (v := (.int .i64 (k : Int))) rfl rfl) ?_)
            refine rw_cons (op_pv (w0 rfl) rfl rfl (pv_indexN Try.underlying9 rfl rfl rfl (by omega)) ?_)
            refine rw_cons (op_pv (w0 rfl) rfl rfl (pv_lss rfl rfl rfl) ?_)
            refine rw_cons (op_pv (w0 rfl) rfl rfl (pv_move (v := (.bool (decide ((by8 f.nm k : Int) < 97)))) rfl rfl) ?_)
            refine rw_split 33 rfl (fun hb65 => ?_) (fun hb65 => ?_)
            · -- yes
              replace hb65 := of_decide_eq_true hb65
              refine rw_cons (op_pass (w1n2 rfl rfl rfl rfl) rfl rfl ?_)
              refine rw_cons (op_pass (w1n2 rfl rfl rfl rfl) rfl rfl ?_)
              refine rw_cons (op_pass (w1n2 rfl rfl rfl rfl) rfl rfl ?_)
              refine rw_cons (op_pass (w1n2 rfl rfl rfl rfl) rfl rfl ?_)
              refine rw_cons (op_pass (w1n2 rfl rfl rfl rfl) rfl rfl ?_)
              refine rw_cons (op_pv (w0 rfl) rfl rfl (pv_pickT (v := (.bool true)) rfl rfl rfl) ?_)
              refine rw_nil (hK64 _ _ ?_)
              refine hK62 _ _ ?_
              refine cw_cond rfl (fun h66 => ?_) (fun h66 => ?_)
              · -- then
                clear h66
                refine cw_seq fun K67 hK68 => ?_
                refine cw_region fun K69 hK70 => ?_
                refine rw_cons (op_pv (w0 rfl) rfl rfl (pv_assign (v := (.bool false)) rfl rfl) ?_)
                refine rw_nil (hK70 _ _ ?_)
                refine hK68 _ _ ?_
                refine cw_ret ?_
                refine fin1 rfl ?_
                exact ⟨(bvf (fun h => by have h1 := h.1.2 k (by simp only [fv]; omega); simp only [fv] at h1; omega)), hc⟩
              · -- else
                cases h66
            · -- no
              replace hb65 := of_decide_eq_false hb65
              refine rw_cons (op_pv (w1y rfl rfl rfl rfl) rfl rfl (pv_fld F48_0 rfl rfl) ?_)
              refine rw_cons (op_lv (w1y rfl rfl rfl rfl) rfl rfl (lv_load T9 rfl rfl (hB8.cellA (i := 0) rfl)) ?_)
              refine rw_cons (op_pv (w1y rfl rfl rfl rfl) rfl rfl (pv_move (v := (.int .i64 (k : Int))) rfl rfl) ?_)
              refine rw_cons (op_pv (w1y rfl rfl rfl rfl) rfl rfl (pv_indexN Try.underlying9 rfl rfl rfl (by omega)) ?_)
              refine rw_cons (op_pv (w1y rfl rfl rfl rfl) rfl rfl (pv_gtr rfl rfl rfl) ?_)
              refine rw_cons (op_pv (w0 rfl) rfl rfl (pv_pickF (v := (.bool (decide (122 < (by8 f.nm k : Int))))) rfl rfl rfl) ?_)
              refine rw_nil (hK64 _ _ ?_)
              refine hK62 _ _ ?_
              refine cw_cond rfl (fun h71 => ?_) (fun h71 => ?_)
              · -- then
                replace h71 := of_decide_eq_true h71
                refine cw_seq fun K72 hK73 => ?_
                refine cw_region fun K74 hK75 => ?_
                refine rw_cons (op_pv (w0 rfl) rfl rfl (pv_assign (v := (.bool false)) rfl rfl) ?_)
                refine rw_nil (hK75 _ _ ?_)
                refine hK73 _ _ ?_
                refine cw_ret ?_
                refine fin1 rfl ?_
                exact ⟨(bvf (fun h => by have h1 := h.1.2 k (by simp only [fv]; omega); simp only [fv] at h1; omega)), hc⟩
              · -- else
                replace h71 := of_decide_eq_false h71
                refine cw_skip ?_
                refine hK56 _ _ ?_
                refine cw_region fun K76 hK77 => ?_
                refine rw_cons (op_pv (w0 rfl) rfl rfl (pv_add rfl rfl rfl (by omega) (by omega)) ?_)
                refine rw_cons (op_pv (w0 rfl) rfl rfl (pv_move (v := (.int .i64 ((k : Int) + 1))) rfl rfl) ?_)
                refine rw_nil (hK77 _ _ ?_)
                refine hK43 _ _ (k + 1) ⟨(iv (by omega)), rfl, rfl, trivial⟩ ⟨?_, hRf, hB8, hc⟩ ?_
                · refine ⟨by omega, fun q hq => ?_⟩
                  by_cases e : q = k
                  · subst e; omega
                  · exact hby q (by omega)
                · (first | omega | (simp only []; omega))
          · -- else
            replace h54 := of_decide_eq_false h54
            refine cw_exit ?_
            refine hK36 _ _ ?_
            refine cw_seq fun K78 hK79 => ?_
            refine cw_seq fun K80 hK81 => ?_
            refine cw_region fun K82 hK83 => ?_
            refine rw_cons (op_pv (w0 rfl) rfl rfl (pv_fld F48_1 rfl rfl) ?_)
            refine rw_cons (op_lv (w0 rfl) rfl rfl (lv_load T25 rfl rfl (hB8.cellA (i := 1) rfl)) ?_)
            refine rw_cons (op_pv (w0 rfl) rfl rfl (pv_len Try.underlying25 rfl rfl) ?_)
            refine rw_cons (op_pv (w0 rfl) rfl rfl (pv_move (v := (.int .i64 0)) rfl rfl) ?_)
            refine rw_nil (hK83 _ _ ?_)
            refine hK81 _ _ ?_
            refine cw_block ?_
            refine cw_loop (σ := Nat) (fun j => [(44, (.int .i64 (j : Int))), (42, (.slice f.A f.n f.c)), (43, (.int .i64 (f.n : Int)))]) (fun j W => (j ≤ f.n ∧ ∀ q, q < j → 1 ≤ el f.ps q ∧ el f.ps q ≤ 99) ∧ RS encI 1 W w.heap.size f.A f.n f.ps ∧ Blk W g6 48 [(.string f.nm), (.slice f.A f.n f.c)] ∧ Ch [] w W) (fun j => f.n - j) 0 ?_ ?_ ?_
            · exact ⟨rfl, rfl, rfl, trivial⟩
            · refine ⟨⟨Nat.zero_le _, fun q hq => by omega⟩, hRf, hB8, hc⟩
            · rintro j J88 w84 ⟨⟨hj, hye⟩, hRf, hB8, hc⟩ K85 hK86
              have hsz90 := hc.size
              refine cw_seq fun K91 hK92 => ?_
              refine cw_region fun K93 hK94 => ?_
              refine rw_cons (op_pv (w0 rfl) rfl rfl (pv_lss rfl rfl rfl) ?_)
              refine rw_nil (hK94 _ _ ?_)
              refine hK92 _ _ ?_
              refine cw_seq fun K95 hK96 => ?_
              refine cw_cond rfl (fun h97 => ?_) (fun h97 => ?_)
              · -- then
                replace h97 := of_decide_eq_true h97
                refine cw_skip ?_
                refine hK96 _ _ ?_
                refine cw_seq fun K98 hK99 => ?_
                refine cw_block ?_
                refine cw_seq fun K100 hK101 => ?_
                refine cw_region fun K102 hK103 => ?_
                refine rw_cons (op_pv (w0 rfl) rfl rfl (pv_idx Try.underlying25 T3 rfl rfl rfl (hRf.some (k := j) (by omega)) (by omega) (by omega)) ?_)
                refine rw_cons (op_lv (w0 rfl) rfl rfl (lv_load T3 rfl rfl (hRf.cell0 (k := j) (by omega) rfl)) ?_)
                refine rw_cons (op_pv (w0 rfl) rfl rfl (pv_assign (v := (.int .i64 (el f.ps j))) rfl rfl) ?_)
                refine rw_nil (hK103 _ _ ?_)
                refine hK101 _ _ ?_
                refine cw_seq fun K104 hK105 => ?_
                refine cw_region fun K106 hK107 => ?_
                refine rw_cons (op_pv (w0 rfl) rfl rfl (pv_move (v := (.int .i64 (el f.ps j))) rfl rfl) ?_)
                refine rw_cons (op_call (w0 rfl) rfl rfl (rc_call C66 rfl rfl) (idValid_ok (el f.ps j) _ ) ?_)
                rintro _ w108 ⟨rfl, hch109⟩
                have hsz110 := hch109.size
                replace hRf := hRf.ch0 hch109
                replace hB8 := hB8.ch0 hch109
                replace hc := hc.step0 hch109
                refine rw_cons (op_pv (w0 rfl) rfl rfl (pv_not rfl rfl) ?_)
                refine rw_nil (hK107 _ _ ?_)
                refine hK105 _ _ ?_
                refine cw_cond rfl (fun h111 => ?_) (fun h111 => ?_)
                · -- then
                  replace h111 := not_t h111
                  replace h111 := dec_f h111
                  refine cw_seq fun K112 hK113 => ?_
                  refine cw_region fun K114 hK115 => ?_
                  refine rw_cons (op_pv (w0 rfl) rfl rfl (pv_assign (v := (.bool false)) rfl rfl) ?_)
                  refine rw_nil (hK115 _ _ ?_)
                  refine hK113 _ _ ?_
                  refine cw_ret ?_
                  refine fin1 rfl ?_
                  exact ⟨(bvf (fun h => by have h1 := h.2.2 j (by simp only [fv]; omega); simp only [fv] at h1; omega)), hc⟩
                · -- else
                  replace h111 := not_f h111
                  replace h111 := dec_t h111
                  refine cw_skip ?_
                  refine hK99 _ _ ?_
                  refine cw_region fun K116 hK117 => ?_
                  refine rw_cons (op_pv (w0 rfl) rfl rfl (pv_add rfl rfl rfl (by omega) (by omega)) ?_)
                  refine rw_cons (op_pv (w0 rfl) rfl rfl (pv_move (v := (.int .i64 ((j : Int) + 1))) rfl rfl) ?_)
                  refine rw_nil (hK117 _ _ ?_)
                  refine hK86 _ _ (j + 1) ⟨(iv (by omega)), rfl, rfl, trivial⟩ ⟨?_, hRf, hB8, hc⟩ ?_
                  · refine ⟨by omega, fun q hq => ?_⟩
                    by_cases e : q = j
                    · subst e; assumption
                    · exact hye q (by omega)
                  · (first | omega | (simp only []; omega))
              · -- else
                replace h97 := of_decide_eq_false h97
                refine cw_exit ?_
                refine hK79 _ _ ?_
                refine cw_seq fun K118 hK119 => ?_
                refine cw_region fun K120 hK121 => ?_
                refine rw_cons (op_pv (w0 rfl) rfl rfl (pv_assign (v := (.bool true)) rfl rfl) ?_)
                refine rw_nil (hK121 _ _ ?_)
                refine hK119 _ _ ?_
                refine cw_ret ?_
                refine fin1 rfl ?_
                exact ⟨(bvt ⟨⟨⟨by simp only [fv]; omega, by simp only [fv]; omega⟩, fun q hq => hby q (by simp only [fv] at hq; omega)⟩, by simp only [fv]; omega, fun q hq => hye q (by simp only [fv] at hq; omega)⟩), hc⟩
end Go.Proofs.Ythgnlljpjpklpaa

/-
  The walk of (*impl.pieceTree).with!node, written by program: each line names the law of one operation. Conditions: those of the theorem.
-/
import Derived.Test.YthgnlljpjpklpaaProg
import Derived.Test.YthgnlljpjpklpaaDeep
import Derived.Test.YthgnlljpjpklpaaFimplpieceTreewithleaf
import Derived.KernelRfl
namespace Go.Proofs.Ythgnlljpjpklpaa
open Go Go.RowKit
set_option linter.unusedVariables false
set_option linter.unusedSimpArgs false
namespace with_nodeF
theorem T3 : TI Try.prog 3 false (.int .i64 0) 1 8 := TI.mk' Try.underlying3 rfl (by kernel_rfl)
theorem T65 : TI Try.prog 65 false (.pointer none) 1 8 := TI.mk' Try.underlying65 rfl (by kernel_rfl)
theorem F80_0 : FldOK Try.prog 80 0 0 := ⟨_, _, 0, Try.underlying80, rfl, rfl, by kernel_rfl⟩
theorem F80_1 : FldOK Try.prog 80 1 1 := ⟨_, _, 0, Try.underlying80, rfl, rfl, by kernel_rfl⟩
theorem F80_2 : FldOK Try.prog 80 2 2 := ⟨_, _, 0, Try.underlying80, rfl, rfl, by kernel_rfl⟩
theorem C67 : Callable Try.prog 67 := ⟨_, Try.func67, by kernel_rfl, by kernel_rfl⟩
end with_nodeF
open with_nodeF in
set_option maxHeartbeats 4000000 in
theorem with_node (g : Nat) (m x : Int) (pl pr : Option Addr) (Sl Sr : List Nat) (Ql Qr : Value → World → Prop) (w : World) (hB : Blk w g 80 [.int .i64 m, .pointer pl, .pointer pr]) (hgl : g ∉ Sl) (hgr : g ∉ Sr) (hQl : ∀ u w', Ql u w' → ∃ p b, u = .tuple #[.pointer p, .bool b] ∧ Ch Sl w w') (hQr : ∀ u w', Qr u w' → ∃ p b, u = .tuple #[.pointer p, .bool b] ∧ Ch Sr w w') (ihl : x < m → Fn Try.prog 67 [.pointer pl, .int .i64 x] w Ql) (ihr : m < x → Fn Try.prog 67 [.pointer pr, .int .i64 x] w Qr) :
    Fn Try.prog 67 [(.pointer (some (⟨g, 0, none⟩))), (.int .i64 x)] w fun v w' => (x < m ∧ ∃ p b w1, Ql (.tuple #[.pointer p, .bool b]) w1 ∧ Blk w' g 80 [.int .i64 m, .pointer p, .pointer pr] ∧ Ch [g] w1 w' ∧ v = .tuple #[.pointer (some ⟨g, 0, none⟩), .bool b]) ∨ (m < x ∧ ∃ p b w1, Qr (.tuple #[.pointer p, .bool b]) w1 ∧ Blk w' g 80 [.int .i64 m, .pointer pl, .pointer p] ∧ Ch [g] w1 w' ∧ v = .tuple #[.pointer (some ⟨g, 0, none⟩), .bool b]) ∨ (x = m ∧ v = .tuple #[.pointer (some ⟨g, 0, none⟩), .bool false] ∧ w' = w) := by
  refine fn_of (n := 52) Try.func67 rfl rfl rfl rfl ?_
  refine cw_seq fun K1 hK2 => ?_
  refine cw_region fun K3 hK4 => ?_
  refine rw_cons (op_pv (w0 rfl) rfl rfl (pv_assign (v := (.pointer none)) rfl rfl) ?_)
  refine rw_cons (op_pv (w0 rfl) rfl rfl (pv_assign (v := (.bool false)) rfl rfl) ?_)
  refine rw_nil (hK4 _ _ ?_)
  refine hK2 _ _ ?_
  refine cw_seq fun K5 hK6 => ?_
  refine cw_seq fun K7 hK8 => ?_
  refine cw_region fun K9 hK10 => ?_
  refine rw_cons (op_pv (w0 rfl) rfl rfl (pv_move (v := (.pointer (some (⟨g, 0, none⟩)))) rfl rfl) ?_)
  refine rw_cons (op_pv (w0 rfl) rfl rfl (pv_eqPs Try.underlying65 rfl rfl rfl) ?_)
  refine rw_nil (hK10 _ _ ?_)
  refine hK8 _ _ ?_
  refine cw_cond rfl (fun h11 => ?_) (fun h11 => ?_)
  · -- then
    cases h11
  · -- else
    clear h11
    refine cw_skip ?_
    refine hK6 _ _ ?_
    refine cw_seq fun K12 hK13 => ?_
    refine cw_region fun K14 hK15 => ?_
    refine rw_cons (op_pv (w0 rfl) rfl rfl (pv_assign (v := (.bool false)) rfl rfl) ?_)
    refine rw_nil (hK15 _ _ ?_)
    refine hK13 _ _ ?_
    refine cw_seq fun K16 hK17 => ?_
    refine cw_block ?_
    refine cw_seq fun K18 hK19 => ?_
    refine cw_region fun K20 hK21 => ?_
    refine rw_cons (op_pv (w0 rfl) rfl rfl (pv_move (v := (.int .i64 x)) rfl rfl) ?_)
    refine rw_cons (op_pv (w0 rfl) rfl rfl (pv_move (v := (.pointer (some (⟨g, 0, none⟩)))) rfl rfl) ?_)
    refine rw_cons (op_pv (w0 rfl) rfl rfl (pv_nil rfl rfl) ?_)
    refine rw_cons (op_pv (w0 rfl) rfl rfl (pv_fld F80_0 rfl rfl) ?_)
    refine rw_cons (op_lv (w0 rfl) rfl rfl (lv_load T3 rfl rfl (hB.cellA (i := 0) rfl)) ?_)
    refine rw_cons (op_pv (w0 rfl) rfl rfl (pv_lss rfl rfl rfl) ?_)
    refine rw_cons (op_pv (w0 rfl) rfl rfl (pv_assign (v := (.bool (decide (x < m)))) rfl rfl) ?_)
    refine rw_nil (hK21 _ _ ?_)
    refine hK19 _ _ ?_
    refine cw_cond rfl (fun h22 => ?_) (fun h22 => ?_)
    · -- then
      replace h22 := of_decide_eq_true h22
      refine cw_region fun K23 hK24 => ?_
      refine rw_cons (op_pv (w0 rfl) rfl rfl (pv_move (v := (.pointer (some (⟨g, 0, none⟩)))) rfl rfl) ?_)
      refine rw_cons (op_pv (w0 rfl) rfl rfl (pv_move (v := (.pointer (some (⟨g, 0, none⟩)))) rfl rfl) ?_)
      refine rw_cons (op_pv (w0 rfl) rfl rfl (pv_nil rfl rfl) ?_)
      refine rw_cons (op_pv (w0 rfl) rfl rfl (pv_fld F80_1 rfl rfl) ?_)
      refine rw_cons (op_lv (w0 rfl) rfl rfl (lv_load T65 rfl rfl (hB.cellA (i := 1) rfl)) ?_)
      refine rw_cons (op_pv (w0 rfl) rfl rfl (pv_move (v := (.int .i64 x)) rfl rfl) ?_)
      refine rw_cons (op_call (w0 rfl) rfl rfl (rc_call C67 rfl rfl) (ihl (by assumption)) ?_)
      rintro _ w25 hq26
      obtain ⟨p27, b28, rfl, hch29⟩ := hQl _ _ hq26
      have hB1 := hB
      replace hB := hB.ch hch29 hgl
      refine rw_cons (op_pv (w0 rfl) rfl rfl (pv_move (v := (.tuple #[(.pointer p27), (.bool b28)])) rfl rfl) ?_)
      refine rw_cons (op_pv (w0 rfl) rfl rfl (pv_ext (v := (.pointer p27)) rfl rfl rfl) ?_)
      refine rw_cons (op_pv (w0 rfl) rfl rfl (pv_ext (v := (.bool b28)) rfl rfl rfl) ?_)
      refine rw_cons (op_pv (w0 rfl) rfl rfl (pv_nil rfl rfl) ?_)
      refine rw_cons (op_pv (w0 rfl) rfl rfl (pv_fld F80_1 rfl rfl) ?_)
      refine rw_cons (op_store_blk T65 hB (w0 rfl) rfl rfl rfl rfl rfl (one_all rfl) (Nat.le_of_ble_eq_true rfl) ?_)
      rintro w30 hB32 hch31
      have hsz33 := hch31.size
      replace hB : Blk w30 g 80 [(.int .i64 m), (.pointer p27), (.pointer pr)] := hB32
      clear hB32
      refine rw_cons (op_pv (w0 rfl) rfl rfl (pv_assign (v := (.bool b28)) rfl rfl) ?_)
      refine rw_nil (hK24 _ _ ?_)
      refine hK17 _ _ ?_
      refine cw_seq fun K34 hK35 => ?_
      refine cw_region fun K36 hK37 => ?_
      refine rw_cons (op_pv (w0 rfl) rfl rfl (pv_move (v := (.pointer (some (⟨g, 0, none⟩)))) rfl rfl) ?_)
      refine rw_cons (op_pv (w0 rfl) rfl rfl (pv_move (v := (.bool b28)) rfl rfl) ?_)
      refine rw_cons (op_pv (w0 rfl) rfl rfl (pv_assign (v := (.pointer (some (⟨g, 0, none⟩)))) rfl rfl) ?_)
      refine rw_cons (op_pv (w0 rfl) rfl rfl (pv_assign (v := (.bool b28)) rfl rfl) ?_)
      refine rw_nil (hK37 _ _ ?_)
      refine hK35 _ _ ?_
      refine cw_ret ?_
      refine fin2 rfl rfl ?_
      exact .inl ⟨by assumption, p27, b28, w25, hq26, hB, by assumption, rfl⟩
    · -- else
      replace h22 := of_decide_eq_false h22
      refine cw_seq fun K38 hK39 => ?_
      refine cw_region fun K40 hK41 => ?_
      refine rw_cons (op_pv (w0 rfl) rfl rfl (pv_move (v := (.int .i64 x)) rfl rfl) ?_)
      refine rw_cons (op_pv (w0 rfl) rfl rfl (pv_move (v := (.pointer (some (⟨g, 0, none⟩)))) rfl rfl) ?_)
      refine rw_cons (op_pv (w0 rfl) rfl rfl (pv_nil rfl rfl) ?_)
      refine rw_cons (op_pv (w0 rfl) rfl rfl (pv_fld F80_0 rfl rfl) ?_)
      refine rw_cons (op_lv (w0 rfl) rfl rfl (lv_load T3 rfl rfl (hB.cellA (i := 0) rfl)) ?_)
      refine rw_cons (op_pv (w0 rfl) rfl rfl (pv_gtr rfl rfl rfl) ?_)
      refine rw_cons (op_pv (w0 rfl) rfl rfl (pv_assign (v := (.bool (decide (m < x)))) rfl rfl) ?_)
      refine rw_nil (hK41 _ _ ?_)
      refine hK39 _ _ ?_
      refine cw_cond rfl (fun h42 => ?_) (fun h42 => ?_)
      · -- then
        replace h42 := of_decide_eq_true h42
        refine cw_region fun K43 hK44 => ?_
        refine rw_cons (op_pv (w0 rfl) rfl rfl (pv_move (v := (.pointer (some (⟨g, 0, none⟩)))) rfl rfl) ?_)
        refine rw_cons (op_pv (w0 rfl) rfl rfl (pv_move (v := (.pointer (some (⟨g, 0, none⟩)))) rfl rfl) ?_)
        refine rw_cons (op_pv (w0 rfl) rfl rfl (pv_nil rfl rfl) ?_)
        refine rw_cons (op_pv (w0 rfl) rfl rfl (pv_fld F80_2 rfl rfl) ?_)
        refine rw_cons (op_lv (w0 rfl) rfl rfl (lv_load T65 rfl rfl (hB.cellA (i := 2) rfl)) ?_)
        refine rw_cons (op_pv (w0 rfl) rfl rfl (pv_move (v := (.int .i64 x)) rfl rfl) ?_)
        refine rw_cons (op_call (w0 rfl) rfl rfl (rc_call C67 rfl rfl) (ihr (by assumption)) ?_)
        rintro _ w45 hq46
        obtain ⟨p47, b48, rfl, hch49⟩ := hQr _ _ hq46
        have hB1 := hB
        replace hB := hB.ch hch49 hgr
        refine rw_cons (op_pv (w0 rfl) rfl rfl (pv_move (v := (.tuple #[(.pointer p47), (.bool b48)])) rfl rfl) ?_)
        refine rw_cons (op_pv (w0 rfl) rfl rfl (pv_ext (v := (.pointer p47)) rfl rfl rfl) ?_)
        refine rw_cons (op_pv (w0 rfl) rfl rfl (pv_ext (v := (.bool b48)) rfl rfl rfl) ?_)
        refine rw_cons (op_pv (w0 rfl) rfl rfl (pv_nil rfl rfl) ?_)
        refine rw_cons (op_pv (w0 rfl) rfl rfl (pv_fld F80_2 rfl rfl) ?_)
        refine rw_cons (op_store_blk T65 hB (w0 rfl) rfl rfl rfl rfl rfl (one_all rfl) (Nat.le_of_ble_eq_true rfl) ?_)
        rintro w50 hB52 hch51
        have hsz53 := hch51.size
        replace hB : Blk w50 g 80 [(.int .i64 m), (.pointer pl), (.pointer p47)] := hB52
        clear hB52
        refine rw_cons (op_pv (w0 rfl) rfl rfl (pv_assign (v := (.bool b48)) rfl rfl) ?_)
        refine rw_nil (hK44 _ _ ?_)
        refine hK17 _ _ ?_
        refine cw_seq fun K54 hK55 => ?_
        refine cw_region fun K56 hK57 => ?_
        refine rw_cons (op_pv (w0 rfl) rfl rfl (pv_move (v := (.pointer (some (⟨g, 0, none⟩)))) rfl rfl) ?_)
        refine rw_cons (op_pv (w0 rfl) rfl rfl (pv_move (v := (.bool b48)) rfl rfl) ?_)
        refine rw_cons (op_pv (w0 rfl) rfl rfl (pv_assign (v := (.pointer (some (⟨g, 0, none⟩)))) rfl rfl) ?_)
        refine rw_cons (op_pv (w0 rfl) rfl rfl (pv_assign (v := (.bool b48)) rfl rfl) ?_)
        refine rw_nil (hK57 _ _ ?_)
        refine hK55 _ _ ?_
        refine cw_ret ?_
        refine fin2 rfl rfl ?_
        exact .inr (.inl ⟨by omega, p47, b48, w45, hq46, hB, by assumption, rfl⟩)
      · -- else
        replace h42 := of_decide_eq_false h42
        refine cw_skip ?_
        refine hK17 _ _ ?_
        refine cw_seq fun K58 hK59 => ?_
        refine cw_region fun K60 hK61 => ?_
        refine rw_cons (op_pv (w0 rfl) rfl rfl (pv_move (v := (.pointer (some (⟨g, 0, none⟩)))) rfl rfl) ?_)
        refine rw_cons (op_pv (w0 rfl) rfl rfl (pv_move (v := (.bool false)) rfl rfl) ?_)
        refine rw_cons (op_pv (w0 rfl) rfl rfl (pv_assign (v := (.pointer (some (⟨g, 0, none⟩)))) rfl rfl) ?_)
        refine rw_cons (op_pv (w0 rfl) rfl rfl (pv_assign (v := (.bool false)) rfl rfl) ?_)
        refine rw_nil (hK61 _ _ ?_)
        refine hK59 _ _ ?_
        refine cw_ret ?_
        refine fin2 rfl rfl ?_
        exact .inr (.inr ⟨by omega, rfl, rfl⟩)

theorem with_ok (x : Int) (base : Nat) : ∀ (t : PT) (p : Option Addr) (w : World), t.OK 80 base w p → base ≤ w.heap.size → Fn Try.prog 67 [.pointer p, .int .i64 x] w fun v w' => WithQ 80 base t x w v w' := by
  intro t
  induction t with
  | leaf =>
    intro p w h hb
    obtain rfl : p = none := h.is
    refine (with_leaf x w).mono ?_
    rintro v w' ⟨g, rfl, hB, hg, hc⟩
    exact with_leafQ hB hg hb hc
  | node g m l r ihl ihr =>
    intro p w h hb
    obtain ⟨h0, pl, pr, hB, hl, hr⟩ := h.is
    subst h0
    have hnd := h.nd
    simp only [PT.blks, List.nodup_cons, List.nodup_append, List.mem_append, not_or] at hnd
    obtain ⟨o1, o2, o3, o4⟩ := h.ord
    have hlo : l.OK 80 base w pl := ⟨hl, hnd.2.1, fun s hs => h.off s (by simp [PT.blks, hs]), o3⟩
    have hro : r.OK 80 base w pr := ⟨hr, hnd.2.2.1, fun s hs => h.off s (by simp [PT.blks, hs]), o4⟩
    have hq : ∀ (s : PT) u w', WithQ 80 base s x w u w' → ∃ p b, u = .tuple #[.pointer p, .bool b] ∧ Ch s.blks w w' := by
      rintro s u w' ⟨p, b, t', he, _, _, _, _, hc⟩
      exact ⟨p, b, he, hc⟩
    refine (with_node g m x pl pr l.blks r.blks (fun u w' => WithQ 80 base l x w u w') (fun u w' => WithQ 80 base r x w u w') w hB hnd.1.1 hnd.1.2 (hq l) (hq r) (fun _ => ihl pl w hlo hb) (fun _ => ihr pr w hro hb)).mono ?_
    rintro v w' (⟨hx, p, b, w1, hqq, hb2, hc, rfl⟩ | ⟨hx, p, b, w1, hqq, hb2, hc, rfl⟩ | ⟨hx, rfl, rfl⟩)
    · exact with_l h hr hx hqq hb2 hc
    · exact with_r h hl hx hqq hb2 hc
    · exact with_same h hx
end Go.Proofs.Ythgnlljpjpklpaa

/-
  The walk of (*impl.pieceTree).has, written by program: each line names the law of one operation. Conditions: those of the theorem.
-/
import Derived.Test.YthgnlljpjpklpaaProg
import Derived.Test.YthgnlljpjpklpaaDeep
import Derived.KernelRfl
namespace Go.Proofs.Ythgnlljpjpklpaa
open Go Go.RowKit
set_option linter.unusedVariables false
set_option linter.unusedSimpArgs false
namespace has_okF
theorem T3 : TI Try.prog 3 false (.int .i64 0) 1 8 := TI.mk' Try.underlying3 rfl (by kernel_rfl)
theorem T65 : TI Try.prog 65 false (.pointer none) 1 8 := TI.mk' Try.underlying65 rfl (by kernel_rfl)
theorem F80_0 : FldOK Try.prog 80 0 0 := ⟨_, _, 0, Try.underlying80, rfl, rfl, by kernel_rfl⟩
theorem F80_1 : FldOK Try.prog 80 1 1 := ⟨_, _, 0, Try.underlying80, rfl, rfl, by kernel_rfl⟩
theorem F80_2 : FldOK Try.prog 80 2 2 := ⟨_, _, 0, Try.underlying80, rfl, rfl, by kernel_rfl⟩
end has_okF
open has_okF in
set_option maxHeartbeats 4000000 in
theorem has_ok (t : PT) (p : Option Addr) (x : Int) (base : Nat) (w : World) (hT : t.OK 80 base w p) :
    Fn Try.prog 60 [(.pointer p), (.int .i64 x)] w fun v w' => v = .bool (dec (x ∈ t.nums)) ∧ Ch [] w w' := by
  refine fn_of (n := 31) Try.func60 rfl rfl rfl rfl ?_
  have hc : Ch [] w w := Ch.refl _ _
  refine cw_seq fun K1 hK2 => ?_
  refine cw_region fun K3 hK4 => ?_
  refine rw_cons (op_pv (w0 rfl) rfl rfl (pv_assign (v := (.bool false)) rfl rfl) ?_)
  refine rw_nil (hK4 _ _ ?_)
  refine hK2 _ _ ?_
  refine cw_seq fun K5 hK6 => ?_
  refine cw_block ?_
  refine cw_loop (σ := (Option Addr) × PT) (fun ⟨q, u⟩ => [(0, (.pointer q)), (1, (.int .i64 x)), (4, (.bool false))]) (fun ⟨q, u⟩ W => (x ∈ t.nums ↔ x ∈ u.nums) ∧ PT.OK 80 base W u q ∧ Ch [] w W) (fun ⟨q, u⟩ => u.size) (p, t) ?_ ?_ ?_
  · exact ⟨rfl, rfl, rfl, trivial⟩
  · refine ⟨Iff.rfl, hT, hc⟩
  · rintro ⟨q, u⟩ J11 w7 ⟨hinv, hU, hc⟩ K8 hK9
    have hsz13 := hc.size
    have hubT14 := hU.is.lt
    refine cw_seq fun K15 hK16 => ?_
    refine cw_seq fun K17 hK18 => ?_
    refine cw_region fun K19 hK20 => ?_
    refine rw_cons (op_pv (w0 rfl) rfl rfl (pv_move (v := (.pointer q)) rfl rfl) ?_)
    refine rw_cons (op_pv (w0 rfl) rfl rfl (pv_nePv Try.underlying65 rfl rfl rfl) ?_)
    refine rw_cons (op_pv (w0 rfl) rfl rfl (pv_move (v := (.bool (!q.isNone))) rfl rfl) ?_)
    refine rw_split 7 rfl (fun hb21 => ?_) (fun hb21 => ?_)
    · -- yes
      obtain ⟨gq22, m23, l24, r25, pl26, pr27, rfl, rfl, hB28, hL29, hR30, hgq31, ho32, ho33⟩ := tree_node hU hb21
      have hubT34 := hL29.is.lt
      have hubT35 := hR30.is.lt
      refine rw_cons (op_pv (w1y rfl rfl rfl rfl) rfl rfl (pv_move (v := (.pointer (some (⟨gq22, 0, none⟩)))) rfl rfl) ?_)
      refine rw_cons (op_pv (w1y rfl rfl rfl rfl) rfl rfl (pv_nil rfl rfl) ?_)
      refine rw_cons (op_pv (w1y rfl rfl rfl rfl) rfl rfl (pv_fld F80_0 rfl rfl) ?_)
      refine rw_cons (op_lv (w1y rfl rfl rfl rfl) rfl rfl (lv_load T3 rfl rfl (hB28.cellA (i := 0) rfl)) ?_)
      refine rw_cons (op_pv (w1y rfl rfl rfl rfl) rfl rfl (pv_move (v := (.int .i64 x)) rfl rfl) ?_)
      refine rw_cons (op_pv (w1y rfl rfl rfl rfl) rfl rfl (pv_neq rfl rfl rfl) ?_)
      refine rw_cons (op_pv (w0 rfl) rfl rfl (pv_pickT (v := (.bool (decide ((m23 : Int) ≠ x)))) rfl rfl rfl) ?_)
      refine rw_nil (hK20 _ _ ?_)
      refine hK18 _ _ ?_
      refine cw_cond rfl (fun h36 => ?_) (fun h36 => ?_)
      · -- then
        replace h36 := of_decide_eq_true h36
        refine cw_skip ?_
        refine hK16 _ _ ?_
        refine cw_block ?_
        refine cw_seq fun K37 hK38 => ?_
        refine cw_region fun K39 hK40 => ?_
        refine rw_cons (op_pv (w0 rfl) rfl rfl (pv_move (v := (.int .i64 x)) rfl rfl) ?_)
        refine rw_cons (op_pv (w0 rfl) rfl rfl (pv_move (v := (.pointer (some (⟨gq22, 0, none⟩)))) rfl rfl) ?_)
        refine rw_cons (op_pv (w0 rfl) rfl rfl (pv_nil rfl rfl) ?_)
        refine rw_cons (op_pv (w0 rfl) rfl rfl (pv_fld F80_0 rfl rfl) ?_)
        refine rw_cons (op_lv (w0 rfl) rfl rfl (lv_load T3 rfl rfl (hB28.cellA (i := 0) rfl)) ?_)
        refine rw_cons (op_pv (w0 rfl) rfl rfl (pv_lss rfl rfl rfl) ?_)
        refine rw_nil (hK40 _ _ ?_)
        refine hK38 _ _ ?_
        refine cw_cond rfl (fun h41 => ?_) (fun h41 => ?_)
        · -- then
          replace h41 := of_decide_eq_true h41
          refine cw_region fun K42 hK43 => ?_
          refine rw_cons (op_pv (w0 rfl) rfl rfl (pv_move (v := (.pointer (some (⟨gq22, 0, none⟩)))) rfl rfl) ?_)
          refine rw_cons (op_pv (w0 rfl) rfl rfl (pv_nil rfl rfl) ?_)
          refine rw_cons (op_pv (w0 rfl) rfl rfl (pv_fld F80_1 rfl rfl) ?_)
          refine rw_cons (op_lv (w0 rfl) rfl rfl (lv_load T65 rfl rfl (hB28.cellA (i := 1) rfl)) ?_)
          refine rw_cons (op_pv (w0 rfl) rfl rfl (pv_assign (v := (.pointer pl26)) rfl rfl) ?_)
          refine rw_nil (hK43 _ _ ?_)
          refine hK9 _ _ (pl26, l24) ⟨rfl, rfl, rfl, trivial⟩ ⟨?_, hL29, hc⟩ ?_
          · exact hinv.trans ⟨fun h9 => by rcases nums_node.1 h9 with h8 | h8 | h8; omega; exact h8; (have := ho33 _ h8; omega), fun h9 => nums_node.2 (.inr (.inl h9))⟩
          · (simp only [PT.size]; omega)
        · -- else
          replace h41 := of_decide_eq_false h41
          refine cw_region fun K44 hK45 => ?_
          refine rw_cons (op_pv (w0 rfl) rfl rfl (pv_move (v := (.pointer (some (⟨gq22, 0, none⟩)))) rfl rfl) ?_)
          refine rw_cons (op_pv (w0 rfl) rfl rfl (pv_nil rfl rfl) ?_)
          refine rw_cons (op_pv (w0 rfl) rfl rfl (pv_fld F80_2 rfl rfl) ?_)
          refine rw_cons (op_lv (w0 rfl) rfl rfl (lv_load T65 rfl rfl (hB28.cellA (i := 2) rfl)) ?_)
          refine rw_cons (op_pv (w0 rfl) rfl rfl (pv_assign (v := (.pointer pr27)) rfl rfl) ?_)
          refine rw_nil (hK45 _ _ ?_)
          refine hK9 _ _ (pr27, r25) ⟨rfl, rfl, rfl, trivial⟩ ⟨?_, hR30, hc⟩ ?_
          · exact hinv.trans ⟨fun h9 => by rcases nums_node.1 h9 with h8 | h8 | h8; omega; (have := ho32 _ h8; omega); exact h8, fun h9 => nums_node.2 (.inr (.inr h9))⟩
          · (simp only [PT.size]; omega)
      · -- else
        replace h36 := of_decide_eq_false h36
        refine cw_exit ?_
        refine hK6 _ _ ?_
        refine cw_seq fun K46 hK47 => ?_
        refine cw_region fun K48 hK49 => ?_
        refine rw_cons (op_pv (w0 rfl) rfl rfl (pv_move (v := (.pointer (some (⟨gq22, 0, none⟩)))) rfl rfl) ?_)
        refine rw_cons (op_pv (w0 rfl) rfl rfl (pv_nePs Try.underlying65 rfl rfl rfl) ?_)
        refine rw_cons (op_pv (w0 rfl) rfl rfl (pv_assign (v := (.bool true)) rfl rfl) ?_)
        refine rw_nil (hK49 _ _ ?_)
        refine hK47 _ _ ?_
        refine cw_ret ?_
        refine fin1 rfl ?_
        exact ⟨bvt (hinv.2 (nums_node.2 (.inl (by omega)))), hc⟩
    · -- no
      obtain ⟨rfl, rfl⟩ := tree_leaf hU hb21
      refine rw_cons (op_pass (w1n1 rfl rfl rfl rfl) rfl rfl ?_)
      refine rw_cons (op_pass (w1n1 rfl rfl rfl rfl) rfl rfl ?_)
      refine rw_cons (op_pass (w1n1 rfl rfl rfl rfl) rfl rfl ?_)
      refine rw_cons (op_pass (w1n1 rfl rfl rfl rfl) rfl rfl ?_)
      refine rw_cons (op_pass (w1n1 rfl rfl rfl rfl) rfl rfl ?_)
      refine rw_cons (op_pass (w1n1 rfl rfl rfl rfl) rfl rfl ?_)
      refine rw_cons (op_pv (w0 rfl) rfl rfl (pv_pickF (v := (.bool false)) rfl rfl rfl) ?_)
      refine rw_nil (hK20 _ _ ?_)
      refine hK18 _ _ ?_
      refine cw_cond rfl (fun h50 => ?_) (fun h50 => ?_)
      · -- then
        cases h50
      · -- else
        clear h50
        refine cw_exit ?_
        refine hK6 _ _ ?_
        refine cw_seq fun K51 hK52 => ?_
        refine cw_region fun K53 hK54 => ?_
        refine rw_cons (op_pv (w0 rfl) rfl rfl (pv_move (v := (.pointer none)) rfl rfl) ?_)
        refine rw_cons (op_pv (w0 rfl) rfl rfl (pv_nePn Try.underlying65 rfl rfl rfl) ?_)
        refine rw_cons (op_pv (w0 rfl) rfl rfl (pv_assign (v := (.bool false)) rfl rfl) ?_)
        refine rw_nil (hK54 _ _ ?_)
        refine hK52 _ _ ?_
        refine cw_ret ?_
        refine fin1 rfl ?_
        exact ⟨bvf (fun h9 => by have h8 := hinv.1 h9; simp [PT.nums] at h8), hc⟩
end Go.Proofs.Ythgnlljpjpklpaa

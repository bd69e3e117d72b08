/-
  The walk of spec.l21Name, written by program: each line names the law of one operation. Conditions: those of the theorem.
-/
import Derived.Test.YthgnlljpjpklpaaProg
import Derived.Test.YthgnlljpjpklpaaDeep
import Derived.Test.YthgnlljpjpklpaaFspecl6In
import Derived.KernelRfl
namespace Go.Proofs.Ythgnlljpjpklpaa
open Go Go.RowKit
set_option linter.unusedVariables false
set_option linter.unusedSimpArgs false
namespace l21Name_okF
theorem C58 : Callable Try.prog 58 := ⟨_, Try.func58, by kernel_rfl, by kernel_rfl⟩
end l21Name_okF
open l21Name_okF in
set_option maxHeartbeats 4000000 in
theorem l21Name_ok (s : ByteArray) (w : World) (hs : s.size ≤ 1099511627776) :
    Fn Try.prog 57 [(.string s)] w fun v w' => v = .bool (dec (NameOK s)) ∧ Ch [] w w' := by
  refine fn_of (n := 23) Try.func57 rfl rfl rfl rfl ?_
  have hc : Ch [] w w := Ch.refl _ _
  refine cw_seq fun K1 hK2 => ?_
  refine cw_region fun K3 hK4 => ?_
  refine rw_cons (op_pv (w0 rfl) rfl rfl (pv_assign (v := (.bool false)) rfl rfl) ?_)
  refine rw_nil (hK4 _ _ ?_)
  refine hK2 _ _ ?_
  refine cw_seq fun K5 hK6 => ?_
  refine cw_seq fun K7 hK8 => ?_
  refine cw_region fun K9 hK10 => ?_
  refine rw_cons (op_pv (w0 rfl) rfl rfl (pv_assign (v := (.int .i64 0)) rfl rfl) ?_)
  refine rw_nil (hK10 _ _ ?_)
  refine hK8 _ _ ?_
  refine cw_block ?_
  refine cw_loop (σ := Nat) (fun k => [(3, (.int .i64 (k : Int))), (0, (.string s))]) (fun k W => (k ≤ s.size ∧ ∀ q, q < k → 97 ≤ by8 s q ∧ by8 s q ≤ 122) ∧ Ch [] w W) (fun k => s.size - k) 0 ?_ ?_ ?_
  · exact ⟨rfl, rfl, trivial⟩
  · refine ⟨⟨Nat.zero_le _, fun q hq => by omega⟩, hc⟩
  · rintro k J15 w11 ⟨⟨hk, hby⟩, hc⟩ K12 hK13
    have hsz17 := hc.size
    refine cw_seq fun K18 hK19 => ?_
    refine cw_seq fun K20 hK21 => ?_
    refine cw_region fun K22 hK23 => ?_
    refine rw_cons (op_pv (w0 rfl) rfl rfl (pv_move (v := (.int .i64 (k : Int))) rfl rfl) ?_)
    refine rw_cons (op_pv (w0 rfl) rfl rfl (pv_move (v := (.string s)) rfl rfl) ?_)
    refine rw_cons (op_pv (w0 rfl) rfl rfl (pv_lenS Try.underlying9 rfl rfl) ?_)
    refine rw_cons (op_pv (w0 rfl) rfl rfl (pv_lss rfl rfl rfl) ?_)
    refine rw_nil (hK23 _ _ ?_)
    refine hK21 _ _ ?_
    refine cw_cond rfl (fun h24 => ?_) (fun h24 => ?_)
    · -- then
      replace h24 := of_decide_eq_true h24
      refine cw_skip ?_
      refine hK19 _ _ ?_
      refine cw_seq fun K25 hK26 => ?_
      refine cw_block ?_
      refine cw_seq fun K27 hK28 => ?_
      refine cw_region fun K29 hK30 => ?_
      refine rw_cons (op_pv (w0 rfl) rfl rfl (pv_move (v := (.string s)) rfl rfl) ?_)
      refine rw_cons (op_pv (w0 rfl) rfl rfl (pv_move (v := (.int .i64 (k : Int))) rfl rfl) ?_)
      refine rw_cons (op_pv (w0 rfl) rfl rfl (pv_indexN Try.underlying9 rfl rfl rfl (by omega)) ?_)
      refine rw_cons (op_pv (w0 rfl) rfl rfl (pv_lss rfl rfl rfl) ?_)
      refine rw_cons (op_pv (w0 rfl) rfl rfl (pv_move (v := (.bool (decide ((by8 s k : Int) < 97)))) rfl rfl) ?_)
      refine rw_split 14 rfl (fun hb31 => ?_) (fun hb31 => ?_)
      · -- yes
        replace hb31 := of_decide_eq_true hb31
        refine rw_cons (op_pass (w1n2 rfl rfl rfl rfl) rfl rfl ?_)
        refine rw_cons (op_pass (w1n2 rfl rfl rfl rfl) rfl rfl ?_)
        refine rw_cons (op_pass (w1n2 rfl rfl rfl rfl) rfl rfl ?_)
        refine rw_cons (op_pass (w1n2 rfl rfl rfl rfl) rfl rfl ?_)
        refine rw_cons (op_pv (w0 rfl) rfl rfl (pv_pickT (v := (.bool true)) rfl rfl rfl) ?_)
        refine rw_nil (hK30 _ _ ?_)
        refine hK28 _ _ ?_
        refine cw_cond rfl (fun h32 => ?_) (fun h32 => ?_)
        · -- then
          clear h32
          refine cw_seq fun K33 hK34 => ?_
          refine cw_region fun K35 hK36 => ?_
          refine rw_cons (op_pv (w0 rfl) rfl rfl (pv_assign (v := (.bool false)) rfl rfl) ?_)
          refine rw_nil (hK36 _ _ ?_)
          refine hK34 _ _ ?_
          refine cw_ret ?_
          refine fin1 rfl ?_
          exact ⟨(bvf (fun h => by have h1 := h.2 k (by omega); omega)), hc⟩
        · -- else
          cases h32
      · -- no
        replace hb31 := of_decide_eq_false hb31
        refine rw_cons (op_pv (w1y rfl rfl rfl rfl) rfl rfl (pv_move (v := (.string s)) rfl rfl) ?_)
        refine rw_cons (op_pv (w1y rfl rfl rfl rfl) rfl rfl (pv_move (v := (.int .i64 (k : Int))) rfl rfl) ?_)
        refine rw_cons (op_pv (w1y rfl rfl rfl rfl) rfl rfl (pv_indexN Try.underlying9 rfl rfl rfl (by omega)) ?_)
        refine rw_cons (op_pv (w1y rfl rfl rfl rfl) rfl rfl (pv_gtr rfl rfl rfl) ?_)
        refine rw_cons (op_pv (w0 rfl) rfl rfl (pv_pickF (v := (.bool (decide (122 < (by8 s k : Int))))) rfl rfl rfl) ?_)
        refine rw_nil (hK30 _ _ ?_)
        refine hK28 _ _ ?_
        refine cw_cond rfl (fun h37 => ?_) (fun h37 => ?_)
        · -- then
          replace h37 := of_decide_eq_true h37
          refine cw_seq fun K38 hK39 => ?_
          refine cw_region fun K40 hK41 => ?_
          refine rw_cons (op_pv (w0 rfl) rfl rfl (pv_assign (v := (.bool false)) rfl rfl) ?_)
          refine rw_nil (hK41 _ _ ?_)
          refine hK39 _ _ ?_
          refine cw_ret ?_
          refine fin1 rfl ?_
          exact ⟨(bvf (fun h => by have h1 := h.2 k (by omega); omega)), hc⟩
        · -- else
          replace h37 := of_decide_eq_false h37
          refine cw_skip ?_
          refine hK26 _ _ ?_
          refine cw_region fun K42 hK43 => ?_
          refine rw_cons (op_pv (w0 rfl) rfl rfl (pv_move (v := (.int .i64 (k : Int))) rfl rfl) ?_)
          refine rw_cons (op_pv (w0 rfl) rfl rfl (pv_add rfl rfl rfl (by omega) (by omega)) ?_)
          refine rw_cons (op_pv (w0 rfl) rfl rfl (pv_assign (v := (.int .i64 ((k : Int) + 1))) rfl rfl) ?_)
          refine rw_nil (hK43 _ _ ?_)
          refine hK13 _ _ (k + 1) ⟨(iv (by omega)), rfl, trivial⟩ ⟨?_, hc⟩ ?_
          · refine ⟨by omega, fun q hq => ?_⟩
            by_cases e : q = k
            · subst e; omega
            · exact hby q (by omega)
          · (first | omega | (simp only []; omega))
    · -- else
      replace h24 := of_decide_eq_false h24
      refine cw_exit ?_
      refine hK6 _ _ ?_
      refine cw_seq fun K44 hK45 => ?_
      refine cw_region fun K46 hK47 => ?_
      refine rw_cons (op_pv (w0 rfl) rfl rfl (pv_move (v := (.string s)) rfl rfl) ?_)
      refine rw_cons (op_pv (w0 rfl) rfl rfl (pv_lenS Try.underlying9 rfl rfl) ?_)
      refine rw_cons (op_call (w0 rfl) rfl rfl (rc_call C58 rfl rfl) (l6In_ok (s.size : Int) 1 6 _  ) ?_)
      rintro _ w48 ⟨rfl, hch49⟩
      have hsz50 := hch49.size
      replace hc := hc.step0 hch49
      refine rw_cons (op_pv (w0 rfl) rfl rfl (pv_assign (v := (.bool (dec (1 ≤ (s.size : Int) ∧ (s.size : Int) ≤ 6)))) rfl rfl) ?_)
      refine rw_nil (hK47 _ _ ?_)
      refine hK45 _ _ ?_
      refine cw_ret ?_
      refine fin1 rfl ?_
      exact ⟨(bv (dec_congr ⟨fun h => ⟨by omega, fun q hq => hby q (by omega)⟩, fun h => by have := h.1; omega⟩)), hc⟩
end Go.Proofs.Ythgnlljpjpklpaa

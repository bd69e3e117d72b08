/-
  The walk of laws.markText, written by program: each line names the law of one operation. Conditions: those of the theorem.
-/
import Derived.Test.YthgnlljpjpklpaaProg
import Derived.Test.YthgnlljpjpklpaaDeep
import Derived.Test.YthgnlljpjpklpaaMark
import Derived.KernelRfl
namespace Go.Proofs.Ythgnlljpjpklpaa
open Go Go.RowKit
set_option linter.unusedVariables false
set_option linter.unusedSimpArgs false
namespace markText_okF
theorem T5 : TI Try.prog 5 false (.int .u8 0) 1 1 := TI.mk' Try.underlying5 rfl (by kernel_rfl)
end markText_okF
open markText_okF in
set_option maxHeartbeats 4000000 in
theorem markText_ok (m : Int) (w : World) (hm : m ≤ 4611686018427387904) :
    Fn Try.prog 52 [(.int .i64 m)] w fun v w' => v = .string (mtx m) ∧ Ch [] w w' := by
  refine fn_of (n := 20) Try.func52 rfl rfl rfl rfl ?_
  have hc : Ch [] w w := Ch.refl _ _
  refine cw_seq fun K1 hK2 => ?_
  refine cw_region fun K3 hK4 => ?_
  refine rw_cons (op_pv (w0 rfl) rfl rfl (pv_assign (v := (.string (ByteArray.mk #[]))) rfl rfl) ?_)
  refine rw_nil (hK4 _ _ ?_)
  refine hK2 _ _ ?_
  refine cw_seq fun K5 hK6 => ?_
  refine cw_seq fun K7 hK8 => ?_
  refine cw_region fun K9 hK10 => ?_
  refine rw_cons (op_pv (w0 rfl) rfl rfl (pv_move (v := (.int .i64 m)) rfl rfl) ?_)
  refine rw_cons (op_pv (w0 rfl) rfl rfl (pv_leq rfl rfl rfl) ?_)
  refine rw_nil (hK10 _ _ ?_)
  refine hK8 _ _ ?_
  refine cw_cond rfl (fun h11 => ?_) (fun h11 => ?_)
  · -- then
    replace h11 := of_decide_eq_true h11
    refine cw_seq fun K12 hK13 => ?_
    refine cw_region fun K14 hK15 => ?_
    refine rw_cons (op_pv (w0 rfl) rfl rfl (pv_assign (v := (.string (ByteArray.mk #[109, 48]))) rfl rfl) ?_)
    refine rw_nil (hK15 _ _ ?_)
    refine hK13 _ _ ?_
    refine cw_ret ?_
    refine fin1 rfl ?_
    exact ⟨(congrArg Value.string (by unfold mtx; rw [if_pos (by omega)])), hc⟩
  · -- else
    replace h11 := of_decide_eq_false h11
    refine cw_skip ?_
    refine hK6 _ _ ?_
    refine cw_seq fun K16 hK17 => ?_
    refine cw_region fun K18 hK19 => ?_
    refine rw_cons (op_pv (w0 rfl) rfl rfl (pv_assign (v := (.string (ByteArray.mk #[]))) rfl rfl) ?_)
    refine rw_nil (hK19 _ _ ?_)
    refine hK17 _ _ ?_
    refine cw_seq fun K20 hK21 => ?_
    refine cw_block ?_
    refine cw_loop (σ := Nat × ByteArray) (fun ⟨k, s⟩ => [(0, (.int .i64 (k : Int))), (3, (.string s)), (2, (.string (ByteArray.mk #[])))]) (fun ⟨k, s⟩ W => (dig k s = dig m.toNat ByteArray.empty ∧ s.size + k ≤ m.toNat) ∧ Ch [] w W) (fun ⟨k, s⟩ => k) (m.toNat, ByteArray.empty) ?_ ?_ ?_
    · exact ⟨(iv (by omega)), rfl, rfl, trivial⟩
    · refine ⟨⟨rfl, by simp⟩, hc⟩
    · rintro ⟨k, s⟩ J26 w22 ⟨⟨hd, hsz⟩, hc⟩ K23 hK24
      have hsz28 := hc.size
      have hds := digB_size k s
      refine cw_seq fun K29 hK30 => ?_
      refine cw_seq fun K31 hK32 => ?_
      refine cw_region fun K33 hK34 => ?_
      refine rw_cons (op_pv (w0 rfl) rfl rfl (pv_move (v := (.int .i64 (k : Int))) rfl rfl) ?_)
      refine rw_cons (op_pv (w0 rfl) rfl rfl (pv_gtr rfl rfl rfl) ?_)
      refine rw_nil (hK34 _ _ ?_)
      refine hK32 _ _ ?_
      refine cw_cond rfl (fun h35 => ?_) (fun h35 => ?_)
      · -- then
        replace h35 := of_decide_eq_true h35
        refine cw_skip ?_
        refine hK30 _ _ ?_
        refine cw_block ?_
        refine cw_seq fun K36 hK37 => ?_
        refine cw_region fun K38 hK39 => ?_
        refine rw_cons (op_pv (w0 rfl) rfl rfl (pv_move (v := (.int .i64 (k : Int))) rfl rfl) ?_)
        refine rw_cons (op_pv (w0 rfl) rfl rfl (pv_rem rfl rfl rfl (by omega) (by omega)) ?_)
        refine rw_cons (op_pv (w0 rfl) rfl rfl (pv_add rfl rfl rfl (by omega) (by omega)) ?_)
        refine rw_cons (op_pv (w0 rfl) rfl rfl (pv_to8 Try.underlying3 Try.underlying5 rfl rfl (by omega) (by omega)) ?_)
        refine rw_cons (op_bslice [(.int .u8 (48 + ((k : Int) % 10)))] Try.underlying36 T5 (w0 rfl) rfl rfl rfl rfl rfl (by simp [Value.cells]) (by decide) ?_)
        intro g41 w40 hg44 hg45 hB43 hch42
        have hsz46 := hch42.size
        replace hc := hc.step0 hch42
        replace hB43 : Blk w40 g41 5 [(.int .u8 (48 + ((k : Int) % 10)))] := hB43
        refine rw_cons (op_lv (w0 rfl) rfl rfl (lv_b2s Try.underlying36 Try.underlying5 Try.underlying9 rfl rfl hB43) ?_)
        refine rw_cons (op_pv (w0 rfl) rfl rfl (pv_move (v := (.string s)) rfl rfl) ?_)
        refine rw_cons (op_pv (w0 rfl) rfl rfl (pv_addS rfl rfl rfl (by show (digB k).size + s.size ≤ _; have : (digB k).size = 1 := rfl; omega)) ?_)
        refine rw_cons (op_pv (w0 rfl) rfl rfl (pv_assign (v := (.string ((ByteArray.empty.push (UInt8.ofNat (48 + ((k : Int) % 10)).toNat)) ++ s))) rfl rfl) ?_)
        refine rw_nil (hK39 _ _ ?_)
        refine hK37 _ _ ?_
        refine cw_region fun K47 hK48 => ?_
        refine rw_cons (op_pv (w0 rfl) rfl rfl (pv_move (v := (.int .i64 (k : Int))) rfl rfl) ?_)
        refine rw_cons (op_pv (w0 rfl) rfl rfl (pv_quo rfl rfl rfl (by omega) (by omega) (by omega)) ?_)
        refine rw_cons (op_pv (w0 rfl) rfl rfl (pv_assign (v := (.int .i64 ((k : Int) / 10))) rfl rfl) ?_)
        refine rw_nil (hK48 _ _ ?_)
        refine hK24 _ _ (k / 10, (digB k ++ s)) ⟨(iv (by omega)), rfl, rfl, trivial⟩ ⟨?_, hc⟩ ?_
        · refine ⟨by rw [← hd, dig_step (k := k) (by omega)], ?_⟩
          rw [digB_size]; omega
        · (first | omega | (simp only []; omega))
      · -- else
        replace h35 := of_decide_eq_false h35
        refine cw_exit ?_
        refine hK21 _ _ ?_
        refine cw_seq fun K49 hK50 => ?_
        refine cw_region fun K51 hK52 => ?_
        refine rw_cons (op_pv (w0 rfl) rfl rfl (pv_move (v := (.string s)) rfl rfl) ?_)
        refine rw_cons (op_pv (w0 rfl) rfl rfl (pv_addS rfl rfl rfl (by have : (ByteArray.mk #[109]).size = 1 := rfl; omega)) ?_)
        refine rw_cons (op_pv (w0 rfl) rfl rfl (pv_assign (v := (.string ((ByteArray.mk #[109]) ++ s))) rfl rfl) ?_)
        refine rw_nil (hK52 _ _ ?_)
        refine hK50 _ _ ?_
        refine cw_ret ?_
        refine fin1 rfl ?_
        exact ⟨(congrArg Value.string (by obtain rfl : k = 0 := (by omega); unfold mtx; rw [if_neg (by omega), ← hd, dig_zero])), hc⟩
end Go.Proofs.Ythgnlljpjpklpaa

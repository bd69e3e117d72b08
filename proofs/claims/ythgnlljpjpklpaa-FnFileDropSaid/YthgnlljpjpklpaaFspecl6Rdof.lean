/-
  The walk of (*spec.l6Rd).of, written by program: each line names the law of one operation. Conditions: those of the theorem.
-/
import Derived.Test.YthgnlljpjpklpaaProg
import Derived.Test.YthgnlljpjpklpaaDeep
import Derived.Test.YthgnlljpjpklpaaFspecl6Rdpick
import Derived.KernelRfl
namespace Go.Proofs.Ythgnlljpjpklpaa
open Go Go.RowKit
set_option linter.unusedVariables false
set_option linter.unusedSimpArgs false
namespace of_okF
theorem T9 : TI Try.prog 9 false (.string { data := #[] }) 1 16 := TI.mk' Try.underlying9 rfl (by kernel_rfl)
theorem C62 : Callable Try.prog 62 := ⟨_, Try.func62, by kernel_rfl, by kernel_rfl⟩
end of_okF
open of_okF in
set_option maxHeartbeats 4000000 in
theorem of_ok (g N base : Nat) (A : Option Addr) (n c : Nat) (xs : List ByteArray) (w : World) (hRd : Rd 77 w g N) (hN : N ≤ 999990) (hO : Own encS 1 w base 9 (.slice A n c) xs) (hgb : g < base) (h0 : 0 < n) (hn : n ≤ 1000) :
    Fn Try.prog 63 [(.pointer (some (⟨g, 0, none⟩))), (.slice A n c)] w fun v w' => ∃ s, v = .string s ∧ s ∈ xs ∧ Rd 77 w' g (N + 1) ∧ Ch [g] w w' := by
  have hg0 := hRd.lt
  have hub := hO.lt
  have hlen := hO.le.2.2
  refine fn_of (n := 12) Try.func63 rfl rfl rfl rfl ?_
  have hc : Ch [g] w w := Ch.refl _ _
  refine cw_seq fun K1 hK2 => ?_
  refine cw_region fun K3 hK4 => ?_
  refine rw_cons (op_pv (w0 rfl) rfl rfl (pv_assign (v := (.string (ByteArray.mk #[]))) rfl rfl) ?_)
  refine rw_nil (hK4 _ _ ?_)
  refine hK2 _ _ ?_
  refine cw_seq fun K5 hK6 => ?_
  refine cw_region fun K7 hK8 => ?_
  refine rw_cons (op_pv (w0 rfl) rfl rfl (pv_move (v := (.slice A n c)) rfl rfl) ?_)
  refine rw_cons (op_pv (w0 rfl) rfl rfl (pv_move (v := (.pointer (some (⟨g, 0, none⟩)))) rfl rfl) ?_)
  refine rw_cons (op_pv (w0 rfl) rfl rfl (pv_move (v := (.slice A n c)) rfl rfl) ?_)
  refine rw_cons (op_pv (w0 rfl) rfl rfl (pv_len Try.underlying74 rfl rfl) ?_)
  refine rw_cons (op_call (w0 rfl) rfl rfl (rc_call C62 rfl rfl) (pick_ok _ _ _ _ hRd (by omega)) ?_)
  rintro _ w10 ⟨r9, rfl, hr11, hr12, hr13, hRd14, hch15⟩
  have hsz16 := hch15.size
  replace hO := hO.ch hch15 (fun s hs => by first | (have := hO.off s hs; simp; omega) | (have := hub s hs; simp; omega))
  replace hc := hc.step hch15 (fun s hs => .inl hs)
  clear hRd; have hRd := hRd14; clear hRd14
  refine rw_cons (op_pv (w0 rfl) rfl rfl (pv_idx Try.underlying74 T9 rfl rfl rfl ((hO.rs (fun _ => rfl)).some (k := (r9).toNat) (by omega)) (by omega) (by omega)) ?_)
  refine rw_cons (op_lv (w0 rfl) rfl rfl (lv_load T9 rfl rfl ((hO.rs (fun _ => rfl)).cell0 (k := (r9).toNat) (by omega) rfl)) ?_)
  refine rw_cons (op_pv (w0 rfl) rfl rfl (pv_assign (v := (.string (el xs (r9).toNat))) rfl rfl) ?_)
  refine rw_nil (hK8 _ _ ?_)
  refine hK6 _ _ ?_
  refine cw_ret ?_
  refine fin1 rfl ?_
  exact ⟨_, rfl, el_mem (by omega), hRd, hc⟩
end Go.Proofs.Ythgnlljpjpklpaa

/-
  FnExactBaseValid: for every input the law returns true, and each argument reads as it read. No conditions.
-/
import Derived.Test.YtpnenfglogggmaaFlawsFnExactBaseValid
import Derived.Test.YtpnenfglogggmaaFrame
import Derived.Test.YtpnenfglogggmaaFrameB
namespace Go.Proofs.Ytpnenfglogggmaa.fnExactBaseValidP
open Go.ChangeShapes Go.WideShapes Go.ChangeAt Go.RowKit
open Go.ChangeMaps (open_string shut_string)
set_option linter.unusedVariables false

theorem own : ownKnob Try.prog.godebug = none := by kernel_rfl
theorem laidOut : laidOutB Try.prog = true := by kernel_rfl

set_option maxRecDepth 100000 in
theorem lifted (os : Os) (started : os.Started) (H : Type) (enc : TypeId × Value → H) :
    ReturnsInHanded {} Try.checked os 4 .any (Rows.fnExactBaseValidSpec.pre6 enc Try.prog Try.f4 Rows.fnExactBaseValidRow.domain false) (Rows.fnExactBaseValidSpec.post enc Try.prog Try.f4 false true false false) := by
  refine returnsInHanded_of_change (C := Try.checked) own started (by kernel_rfl) Try.func4
    (ChangeSpec.witness6 (enc := enc) (C := Try.checked) false ⟨#[], #[.agg #[.int .i64 0, .slice none 0 0]], []⟩ 8 (by kernel_rfl) (by kernel_rfl) (by kernel_rfl) (by kernel_rfl)) ?_
  intro W base args ds gs before hval0 hW hcnd _
  have hval : ∀ (j : Nat) t v, Try.f4.params[j]? = some t → args[j]? = some v → Value.okWide Try.prog W .any base t v := hval0
  have hW' := hW
  obtain ⟨p, q, hA0, hV, rfl, hfz, hnd⟩ := hW
  have hA : DataW.TrodAll enc Try.prog W 0 (fun _ => true) true Try.f4.params.toList args.toList ds p := hA0
  rw [Try.params4] at hA hval
  obtain ⟨v0, vs0, d0, ds0, p0, q0, hargs, rfl, rfl, h0, r0⟩ := trodAll_cons hA
  obtain ⟨rfl, rfl, rfl⟩ := trodAll_nil r0
  obtain rfl : args = #[v0] := by cases args; simp_all
  obtain ⟨rfl, rfl⟩ := trodVars_none hV
  have k0 := h0
  have lt0 : ∀ x ∈ p0, x.block < W.heap.size := by obtain ⟨m, hm⟩ := k0; exact DataW.trod_lt m _ _ _ hm
  obtain ⟨a0, A0, n0, c0, xs0, rfl, hR0, hn0, hm0⟩ : ∃ (z : Int) (A : Option Addr) (n c : Nat) (xs : List Int), v0 = .agg #[.int .i64 z, .slice A n c] ∧ RS encI 1 W W.heap.size A n xs ∧ n ≤ c ∧ c ≤ maxLen := by
    obtain ⟨u0, u1, y0, y1, m, rfl, _, _, t0, t1⟩ := Go.Joins.open_agg2 Try.underlying29 (by kernel_rfl) (by kernel_rfl) (hval 0 29 v0 rfl rfl) h0
    obtain ⟨z0, e0, _⟩ := DataW.trod_int Try.underlying3 t0
    simp only [List.cons.injEq, and_true] at e0
    rcases open_ints Try.underlying23 Try.underlying3 (by kernel_rfl) t1 with ⟨hcs, _⟩ | ⟨x, l, c, zs, hcs, _, hl, hm, hz, _, hcell, hwz⟩
    · simp only [List.cons.injEq, and_true] at hcs
      exact ⟨z0, none, 0, 0, [], by rw [e0, hcs], RS.nil _ _ _ _ _, Nat.le_refl _, by decide⟩
    · simp only [List.cons.injEq, and_true] at hcs
      exact ⟨z0, some x, l, c, _, by rw [e0, hcs], rs_i64 hl (by simpa using hz) hcell, hl, hm⟩
  clear hA0 hval0
  refine Calls.mono (FnExactBaseValid_ok a0 A0 n0 c0 xs0 W hR0 hn0 hm0) fun e W' ⟨v, he, hv, hch⟩ => ?_
  subst he
  subst hv
  have bel := hch.below
  exact ⟨_, rfl, _, _, _, [], _, [], hW', trodAll_mk1 (shut_bool Try.underlying4 _), (trodAll_cons_mk (Below.trod laidOut (by kernel_rfl) (of_decide_eq_true (by kernel_rfl)) k0 bel lt0) trodAll_mk0), rfl, bel.frame _, fun h => by cases h⟩

theorem over : Rows.fnExactBaseValidRow.holds Try.pinned (OpenSpec.ofChange Rows.fnExactBaseValidSpec) :=
  OpenClaim.holds_of_wide 4 Try.f4 rfl rfl rfl rfl rfl rfl rfl ⟨rfl, rfl, rfl, rfl, rfl⟩ rfl rfl rfl rfl rfl (by kernel_rfl) Try.func4 (by kernel_rfl)
    (of_decide_eq_true (by kernel_rfl)) (by unfold Func.isWrapper; first | (rw [if_pos (by decide +kernel)]; kernel_rfl) | (rw [if_neg (by decide +kernel)]; exact ⟨rfl, rfl⟩))
    (fun os started H enc _ => lifted os started H enc)

/-- The statement. -/
theorem proved : Rows.FnExactBaseValidSaid := over
end Go.Proofs.Ytpnenfglogggmaa.fnExactBaseValidP

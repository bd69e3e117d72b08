/-
  The walk of (*impl.stateArray).list, written by program: each line names the law of one operation. Conditions: those of the theorem.
-/
import Derived.Test.YtdnncgapbjnfoaaProg
import Derived.Test.YtdnncgapbjnfoaaBase
import Derived.Test.YtdnncgapbjnfoaaArr
import Derived.KernelRfl
namespace Go.Proofs.Ytdnncgapbjnfoaa
open Go Go.RowKit
set_option linter.unusedVariables false
set_option linter.unusedSimpArgs false
namespace stlist_okF
theorem T3 : TI Try.prog 3 false (.int .i64 0) 1 8 := TI.mk' Try.underlying3 rfl (by kernel_rfl)
end stlist_okF
open stlist_okF in
set_option maxHeartbeats 4000000 in
theorem stlist_ok (g base : Nat) (xs : List Int) (w : World) (hO : Own encI 1 w base 69 (.slice (some ⟨g, 0, none⟩) 5 5) xs) :
    Fn Try.prog 43 [(.pointer (some (⟨g, 0, none⟩)))] w fun v w' => ∃ A c, v = .slice A xs.length c ∧ Own encI 1 w' w.heap.size 3 (.slice A xs.length c) xs ∧ Ch [] w w' := by
  have hub := hO.lt
  have hlx : xs.length = 5 := by have := (hO.rs (fun _ => rfl)).len; omega
  refine fn_of (n := 11) Try.func43 rfl rfl rfl rfl ?_
  have hc : Ch [] w w := Ch.refl _ _
  refine cw_seq fun K1 hK2 => ?_
  refine cw_region fun K3 hK4 => ?_
  refine rw_cons (op_pv (w0 rfl) rfl rfl (pv_assign (v := (.slice none 0 0)) rfl rfl) ?_)
  refine rw_nil (hK4 _ _ ?_)
  refine hK2 _ _ ?_
  refine cw_seq fun K5 hK6 => ?_
  refine cw_region fun K7 hK8 => ?_
  refine rw_cons (op_make (enc := encI) 5 default Try.underlying42 T3 (fun _ => rfl) rfl (by decide) (w0 rfl) rfl rfl rfl rfl rfl (by omega) (by unfold maxLen; omega) ?_)
  rintro g10 w9 hg13 hg14 hO12 hch11
  have hsz15 := hch11.size
  replace hO := hO.ch0 hch11
  replace hc := hc.step0 hch11
  replace hO12 := hO12.less (b := w.heap.size) (by omega)
  have hub16 := hO12.lt
  refine rw_cons (op_pv (w0 rfl) rfl rfl (pv_assign (v := (.slice (some ⟨g10, 0, none⟩) 5 5)) rfl rfl) ?_)
  refine rw_nil (hK8 _ _ ?_)
  refine hK6 _ _ ?_
  refine cw_seq fun K17 hK18 => ?_
  refine cw_region fun K19 hK20 => ?_
  refine rw_cons (op_pv (w0 rfl) rfl rfl (pv_move (v := (.slice (some ⟨g10, 0, none⟩) 5 5)) rfl rfl) ?_)
  refine rw_cons (op_pv (w0 rfl) rfl rfl (pv_move (v := (.pointer (some (⟨g, 0, none⟩)))) rfl rfl) ?_)
  refine rw_cons (op_pv (w0 rfl) rfl rfl (pv_nil rfl rfl) ?_)
  refine rw_cons (op_pv (w0 rfl) rfl rfl (pv_sliceArr Try.underlying69 T3 rfl rfl) ?_)
  have hle24 := hO12.le
  refine rw_cons (op_copy (k := 0) Try.underlying42 T3 (fun _ => rfl) (by decide) (fun _ => one_all rfl) (w0 rfl) rfl rfl rfl rfl rfl hO12 (hO.rs (fun _ => rfl)) (fun h => by have := hO12.some' (by omega); simpa [add_zero'] using this) (by omega) ?_)
  rintro w21 hO22 hch23
  have hsz25 := hch23.size
  replace hO := hO.ch hch23 (fun s hs hs2 => by first | (have h1 := hO.off s hs; have h2 := hub16 s hs2; omega) | (have h1 := hub s hs; have h2 := hO12.off s hs2; omega) | (have h2 := hub16 s hs2; simp [obl, Value.ownBlock] at hs; omega) | (have h1 := hub s hs; simp [obl, Value.ownBlock] at hs2; omega))
  replace hc := (hO12.off.le (by omega)).step hc hch23
  clear hO12; have hO12 := hO22; clear hO22
  refine rw_nil (hK20 _ _ ?_)
  refine hK18 _ _ ?_
  refine cw_seq fun K26 hK27 => ?_
  refine cw_region fun K28 hK29 => ?_
  refine rw_cons (op_pv (w0 rfl) rfl rfl (pv_move (v := (.slice (some ⟨g10, 0, none⟩) 5 5)) rfl rfl) ?_)
  refine rw_cons (op_pv (w0 rfl) rfl rfl (pv_assign (v := (.slice (some ⟨g10, 0, none⟩) 5 5)) rfl rfl) ?_)
  refine rw_nil (hK29 _ _ ?_)
  refine hK27 _ _ ?_
  refine cw_ret ?_
  refine fin1 rfl ?_
  have hxy : ((List.replicate 5 default).take 0 ++ xs.take (min 5 5) ++ (List.replicate 5 default).drop (0 + min 5 5)) = xs := by simp [hlx, List.take_of_length_le]
  exact ⟨_, _, sl_as hO12 hxy, own_as (hO12.less (by omega)) hxy, hc⟩
end Go.Proofs.Ytdnncgapbjnfoaa

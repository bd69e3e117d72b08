/-
  The walk of (*impl.stateArray).put, written by program: each line names the law of one operation. Conditions: those of the theorem.
-/
import Derived.Test.YtdnncgapbjnfoaaProg
import Derived.Test.YtdnncgapbjnfoaaBase
import Derived.Test.YtdnncgapbjnfoaaArr
import Derived.KernelRfl
namespace Go.Proofs.Ytdnncgapbjnfoaa
open Go Go.RowKit
set_option linter.unusedVariables false
set_option linter.unusedSimpArgs false
namespace put_okF
theorem T3 : TI Try.prog 3 false (.int .i64 0) 1 8 := TI.mk' Try.underlying3 rfl (by kernel_rfl)
theorem F33_0 : FldOK Try.prog 33 0 0 := ⟨_, _, 0, Try.underlying33, rfl, rfl, by kernel_rfl⟩
theorem F33_1 : FldOK Try.prog 33 1 1 := ⟨_, _, 0, Try.underlying33, rfl, rfl, by kernel_rfl⟩
end put_okF
open put_okF in
set_option maxHeartbeats 4000000 in
theorem put_ok (g base : Nat) (xs : List Int) (us ua : Int) (w : World) (hO : Own encI 1 w base 69 (.slice (some ⟨g, 0, none⟩) 5 5) xs) (hb : base ≤ w.heap.size) (hu : 0 ≤ us ∧ us ≤ 4) :
    Fn Try.prog 40 [(.pointer (some (⟨g, 0, none⟩))), (.agg #[(.int .i64 us), (.int .i64 ua)])] w fun v w' => v = .tuple #[] ∧ Own encI 1 w' base 69 (.slice (some ⟨g, 0, none⟩) 5 5) (xs.set us.toNat ua) ∧ Ch (obl (.slice (some ⟨g, 0, none⟩) 5 5)) w w' := by
  have hub := hO.lt
  refine fn_of (n := 11) Try.func40 rfl rfl rfl rfl ?_
  have hc : Ch (obl (.slice (some ⟨g, 0, none⟩) 5 5)) w w := Ch.refl _ _
  refine cw_seq fun K1 hK2 => ?_
  refine cw_region fun K3 hK4 => ?_
  refine rw_cons (op_box (w0 rfl) rfl rfl rfl rfl ?_)
  rintro g6 w5 hg9 hg10 hB8 hch7
  have hsz11 := hch7.size
  replace hO := hO.ch0 hch7
  replace hc := hc.step0 hch7
  replace hB8 : Blk w5 g6 33 [(.int .i64 us), (.int .i64 ua)] := hB8
  refine rw_nil (hK4 _ _ ?_)
  refine hK2 _ _ ?_
  refine cw_drawn (fun u => Ch [] w5 u) (.free 0 (.free 1 (.free 2 (.free 3 (.free 4 (.free 5 (.free 6 (.one 7 false (.done))))))))) (by kernel_rfl) (by kernel_rfl) (Ch.refl _ _).drew fun K15 hK16 => ?_
  obtain ⟨w12, hw_, hch13, hsz14⟩ : ∃ w1 : World, w1 = w5.drew ∧ Ch [] w5 w1 ∧ w1.heap.size = w5.heap.size := ⟨_, rfl, (Ch.refl _ _).drew, rfl⟩
  rw [← hw_]; clear hw_
  have hr17 : Ch [] w5 w12 := hch13.sub (fun s hs => by cases hs)
  have hO_r := hO
  have hB8_r := hB8
  have hsz18 := hch13.size
  replace hO := hO.ch0 hch13
  replace hB8 := hB8.ch0 hch13
  replace hc := hc.step0 hch13
  refine tw_free rfl (w0 rfl) rfl rfl (fun u hu => (pv_move (v := (.pointer (some (⟨g, 0, none⟩)))) rfl rfl : PV _ _ _ _) u) ?_
  refine tw_free rfl (w0 rfl) rfl rfl (fun u hu => (pv_fld F33_0 rfl rfl : PV _ _ _ _) u) ?_
  refine tw_free rfl (w0 rfl) rfl rfl (fun u hu => lv_load T3 rfl rfl ((hB8_r.ch hu (by simp)).cellA (i := 0) rfl)) ?_
  refine tw_free rfl (w0 rfl) rfl rfl (fun u hu => (pv_fld F33_1 rfl rfl : PV _ _ _ _) u) ?_
  refine tw_free rfl (w0 rfl) rfl rfl (fun u hu => lv_load T3 rfl rfl ((hB8_r.ch hu (by simp)).cellA (i := 1) rfl)) ?_
  refine tw_free rfl (w0 rfl) rfl rfl (fun u hu => (pv_nil rfl rfl : PV _ _ _ _) u) ?_
  refine tw_free rfl (w0 rfl) rfl rfl (fun u hu => (pv_idxA Try.underlying69 T3 rfl rfl rfl (by omega) (by omega) : PV _ _ _ _) u) ?_
  refine tw_one rfl (op_store_ownA (k := (us).toNat) (off := 0) ua T3 hO (fun _ => rfl) (w0 rfl) rfl rfl rfl rfl rfl (one_all rfl) (by omega) (Nat.le_of_ble_eq_true rfl) rfl ?_)
  rintro w19 hO21 hch20
  have hsz22 := hch20.size
  replace hB8 := hB8.ch hch20 (by first | (refine hO.off.not ?_; omega) | (intro hs; have := hub _ hs; omega))
  replace hc := hc.step hch20 (fun s hs => .inl hs)
  clear hr17
  clear hO; have hO := hO21; clear hO21
  refine ⟨fun h => (by cases h), ?_⟩
  try clear hB8_r
  try clear hO_r
  refine tw_done (hK16 _ _ ?_)
  refine fin0n ?_
  exact ⟨rfl, hO, hc⟩
end Go.Proofs.Ytdnncgapbjnfoaa

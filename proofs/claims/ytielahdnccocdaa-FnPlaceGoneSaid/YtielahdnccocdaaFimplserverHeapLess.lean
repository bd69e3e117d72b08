/-
  The walk of (impl.serverHeap).Less, written by program: each line names the law of one operation. Conditions: those of the theorem.
-/
import Derived.Test.YtielahdnccocdaaProg
import Derived.Test.YtielahdnccocdaaRank
import Derived.KernelRfl
namespace Go.Proofs.Ytielahdnccocdaa
open Go Go.RowKit
set_option linter.unusedVariables false
set_option linter.unusedSimpArgs false
namespace heapLess_okF
theorem T3 : TI Try.prog 3 false (.int .i64 0) 1 8 := TI.mk' Try.underlying3 rfl (by kernel_rfl)
theorem T53 : TI Try.prog 53 true (.agg #[.int .i64 0, .int .i64 0]) 2 16 := TI.mk' Try.underlying53 rfl (by kernel_rfl)
theorem F53_0 : FldOK Try.prog 53 0 0 := ⟨_, _, 0, Try.underlying53, rfl, rfl, by kernel_rfl⟩
theorem F53_1 : FldOK Try.prog 53 1 1 := ⟨_, _, 0, Try.underlying53, rfl, rfl, by kernel_rfl⟩
end heapLess_okF
open heapLess_okF in
set_option maxHeartbeats 4000000 in
theorem heapLess_ok (Ahs : Option Addr) (nhs chs : Nat) (hs : List Bt) (i : Int) (j : Int) (w : World) (hRhs : RS encB 2 w w.heap.size Ahs nhs hs) (hNhs : nhs ≤ 1099511627776) (hi : 0 ≤ i ∧ i < nhs) (hj : 0 ≤ j ∧ j < nhs) :
    Fn Try.prog 58 [(.slice Ahs nhs chs), (.int .i64 i), (.int .i64 j)] w fun v w' => v = .bool (dec (Ahead (el hs i.toNat) (el hs j.toNat))) ∧ Ch [] w w' := by
  have hlenhs := hRhs.len
  refine fn_of (n := 40) Try.func58 rfl rfl rfl rfl ?_
  have hc : Ch [] w w := Ch.refl _ _
  refine cw_seq fun K1 hK2 => ?_
  refine cw_region fun K3 hK4 => ?_
  refine rw_cons (op_pv (w0 rfl) rfl rfl (pv_assign (v := (.bool false)) rfl rfl) ?_)
  refine rw_nil (hK4 _ _ ?_)
  refine hK2 _ _ ?_
  refine cw_seq fun K5 hK6 => ?_
  refine cw_seq fun K7 hK8 => ?_
  refine cw_drawn (fun u => Ch [] w u) (.free 0 (.free 1 (.free 2 (.free 3 (.free 4 (.free 5 (.free 6 (.free 7 (.free 8 (.free 9 (.free 10 (.done)))))))))))) (by kernel_rfl) (by kernel_rfl) (Ch.refl _ _).drew fun K12 hK13 => ?_
  obtain ⟨w9, hw_, hch10, hsz11⟩ : ∃ w1 : World, w1 = w.drew ∧ Ch [] w w1 ∧ w1.heap.size = w.heap.size := ⟨_, rfl, (Ch.refl _ _).drew, rfl⟩
  rw [← hw_]; clear hw_
  have hr14 : Ch [] w w9 := hch10.sub (fun s hs => by cases hs)
  have hRhs_r := hRhs
  have hsz15 := hch10.size
  replace hRhs := hRhs.ch0 hch10
  replace hc := hc.step0 hch10
  refine tw_free rfl (w0 rfl) rfl rfl (fun u hu => (pv_move (v := (.slice Ahs nhs chs)) rfl rfl : PV _ _ _ _) u) ?_
  refine tw_free rfl (w0 rfl) rfl rfl (fun u hu => (pv_move (v := (.int .i64 i)) rfl rfl : PV _ _ _ _) u) ?_
  refine tw_free rfl (w0 rfl) rfl rfl (fun u hu => (pv_idx Try.underlying50 T53 rfl rfl rfl (hRhs.some (k := (i).toNat) (by omega)) (by omega) (by omega) : PV _ _ _ _) u) ?_
  refine tw_free rfl (w0 rfl) rfl rfl (fun u hu => (pv_fld F53_1 rfl rfl : PV _ _ _ _) u) ?_
  refine tw_free rfl (w0 rfl) rfl rfl (fun u hu => lv_load T3 rfl rfl ((hRhs_r.ch0 hu).cellE (k := (i).toNat) (j := 1) (by omega) rfl)) ?_
  refine tw_free rfl (w0 rfl) rfl rfl (fun u hu => (pv_move (v := (.slice Ahs nhs chs)) rfl rfl : PV _ _ _ _) u) ?_
  refine tw_free rfl (w0 rfl) rfl rfl (fun u hu => (pv_move (v := (.int .i64 j)) rfl rfl : PV _ _ _ _) u) ?_
  refine tw_free rfl (w0 rfl) rfl rfl (fun u hu => (pv_idx Try.underlying50 T53 rfl rfl rfl (hRhs.some (k := (j).toNat) (by omega)) (by omega) (by omega) : PV _ _ _ _) u) ?_
  refine tw_free rfl (w0 rfl) rfl rfl (fun u hu => (pv_fld F53_1 rfl rfl : PV _ _ _ _) u) ?_
  refine tw_free rfl (w0 rfl) rfl rfl (fun u hu => lv_load T3 rfl rfl ((hRhs_r.ch0 hu).cellE (k := (j).toNat) (j := 1) (by omega) rfl)) ?_
  refine tw_free rfl (w0 rfl) rfl rfl (fun u hu => (pv_neq rfl rfl rfl : PV _ _ _ _) u) ?_
  clear hRhs_r
  refine tw_done (hK13 _ _ ?_)
  refine hK8 _ _ ?_
  refine cw_cond rfl (fun h16 => ?_) (fun h16 => ?_)
  · -- then
    replace h16 := of_decide_eq_true h16
    refine cw_seq fun K17 hK18 => ?_
    refine cw_drawn (fun u => Ch [] w9 u) (.free 0 (.free 1 (.free 2 (.free 3 (.free 4 (.free 5 (.free 6 (.free 7 (.free 8 (.free 9 (.free 10 (.free 11 (.done))))))))))))) (by kernel_rfl) (by kernel_rfl) (Ch.refl _ _).drew fun K22 hK23 => ?_
    obtain ⟨w19, hw_, hch20, hsz21⟩ : ∃ w1 : World, w1 = w9.drew ∧ Ch [] w9 w1 ∧ w1.heap.size = w9.heap.size := ⟨_, rfl, (Ch.refl _ _).drew, rfl⟩
    rw [← hw_]; clear hw_
    have hr24 : Ch [] w9 w19 := hch20.sub (fun s hs => by cases hs)
    have hRhs_r := hRhs
    have hsz25 := hch20.size
    replace hRhs := hRhs.ch0 hch20
    replace hc := hc.step0 hch20
    refine tw_free rfl (w0 rfl) rfl rfl (fun u hu => (pv_move (v := (.slice Ahs nhs chs)) rfl rfl : PV _ _ _ _) u) ?_
    refine tw_free rfl (w0 rfl) rfl rfl (fun u hu => (pv_move (v := (.int .i64 i)) rfl rfl : PV _ _ _ _) u) ?_
    refine tw_free rfl (w0 rfl) rfl rfl (fun u hu => (pv_idx Try.underlying50 T53 rfl rfl rfl (hRhs.some (k := (i).toNat) (by omega)) (by omega) (by omega) : PV _ _ _ _) u) ?_
    refine tw_free rfl (w0 rfl) rfl rfl (fun u hu => (pv_fld F53_1 rfl rfl : PV _ _ _ _) u) ?_
    refine tw_free rfl (w0 rfl) rfl rfl (fun u hu => lv_load T3 rfl rfl ((hRhs_r.ch0 hu).cellE (k := (i).toNat) (j := 1) (by omega) rfl)) ?_
    refine tw_free rfl (w0 rfl) rfl rfl (fun u hu => (pv_move (v := (.slice Ahs nhs chs)) rfl rfl : PV _ _ _ _) u) ?_
    refine tw_free rfl (w0 rfl) rfl rfl (fun u hu => (pv_move (v := (.int .i64 j)) rfl rfl : PV _ _ _ _) u) ?_
    refine tw_free rfl (w0 rfl) rfl rfl (fun u hu => (pv_idx Try.underlying50 T53 rfl rfl rfl (hRhs.some (k := (j).toNat) (by omega)) (by omega) (by omega) : PV _ _ _ _) u) ?_
    refine tw_free rfl (w0 rfl) rfl rfl (fun u hu => (pv_fld F53_1 rfl rfl : PV _ _ _ _) u) ?_
    refine tw_free rfl (w0 rfl) rfl rfl (fun u hu => lv_load T3 rfl rfl ((hRhs_r.ch0 hu).cellE (k := (j).toNat) (j := 1) (by omega) rfl)) ?_
    refine tw_free rfl (w0 rfl) rfl rfl (fun u hu => (pv_gtr rfl rfl rfl : PV _ _ _ _) u) ?_
    refine tw_free rfl (w0 rfl) rfl rfl (fun u hu => (pv_assign (v := (.bool (decide ((el hs (j).toNat).a < (el hs (i).toNat).a)))) rfl rfl : PV _ _ _ _) u) ?_
    clear hRhs_r
    refine tw_done (hK23 _ _ ?_)
    refine hK18 _ _ ?_
    refine cw_ret ?_
    refine fin1 rfl ?_
    exact ⟨(bv (dec_dec (by unfold Ahead; omega))), hc⟩
  · -- else
    replace h16 := of_decide_eq_false h16
    refine cw_skip ?_
    refine hK6 _ _ ?_
    refine cw_seq fun K26 hK27 => ?_
    refine cw_drawn (fun u => Ch [] w9 u) (.free 0 (.free 1 (.free 2 (.free 3 (.free 4 (.free 5 (.free 6 (.free 7 (.free 8 (.free 9 (.free 10 (.free 11 (.done))))))))))))) (by kernel_rfl) (by kernel_rfl) (Ch.refl _ _).drew fun K31 hK32 => ?_
    obtain ⟨w28, hw_, hch29, hsz30⟩ : ∃ w1 : World, w1 = w9.drew ∧ Ch [] w9 w1 ∧ w1.heap.size = w9.heap.size := ⟨_, rfl, (Ch.refl _ _).drew, rfl⟩
    rw [← hw_]; clear hw_
    have hr33 : Ch [] w9 w28 := hch29.sub (fun s hs => by cases hs)
    have hRhs_r := hRhs
    have hsz34 := hch29.size
    replace hRhs := hRhs.ch0 hch29
    replace hc := hc.step0 hch29
    refine tw_free rfl (w0 rfl) rfl rfl (fun u hu => (pv_move (v := (.slice Ahs nhs chs)) rfl rfl : PV _ _ _ _) u) ?_
    refine tw_free rfl (w0 rfl) rfl rfl (fun u hu => (pv_move (v := (.int .i64 i)) rfl rfl : PV _ _ _ _) u) ?_
    refine tw_free rfl (w0 rfl) rfl rfl (fun u hu => (pv_idx Try.underlying50 T53 rfl rfl rfl (hRhs.some (k := (i).toNat) (by omega)) (by omega) (by omega) : PV _ _ _ _) u) ?_
    refine tw_free rfl (w0 rfl) rfl rfl (fun u hu => (pv_fld F53_0 rfl rfl : PV _ _ _ _) u) ?_
    refine tw_free rfl (w0 rfl) rfl rfl (fun u hu => lv_load T3 rfl rfl ((hRhs_r.ch0 hu).cellE (k := (i).toNat) (j := 0) (by omega) rfl)) ?_
    refine tw_free rfl (w0 rfl) rfl rfl (fun u hu => (pv_move (v := (.slice Ahs nhs chs)) rfl rfl : PV _ _ _ _) u) ?_
    refine tw_free rfl (w0 rfl) rfl rfl (fun u hu => (pv_move (v := (.int .i64 j)) rfl rfl : PV _ _ _ _) u) ?_
    refine tw_free rfl (w0 rfl) rfl rfl (fun u hu => (pv_idx Try.underlying50 T53 rfl rfl rfl (hRhs.some (k := (j).toNat) (by omega)) (by omega) (by omega) : PV _ _ _ _) u) ?_
    refine tw_free rfl (w0 rfl) rfl rfl (fun u hu => (pv_fld F53_0 rfl rfl : PV _ _ _ _) u) ?_
    refine tw_free rfl (w0 rfl) rfl rfl (fun u hu => lv_load T3 rfl rfl ((hRhs_r.ch0 hu).cellE (k := (j).toNat) (j := 0) (by omega) rfl)) ?_
    refine tw_free rfl (w0 rfl) rfl rfl (fun u hu => (pv_lss rfl rfl rfl : PV _ _ _ _) u) ?_
    refine tw_free rfl (w0 rfl) rfl rfl (fun u hu => (pv_assign (v := (.bool (decide ((el hs (i).toNat).s < (el hs (j).toNat).s)))) rfl rfl : PV _ _ _ _) u) ?_
    clear hRhs_r
    refine tw_done (hK32 _ _ ?_)
    refine hK27 _ _ ?_
    refine cw_ret ?_
    refine fin1 rfl ?_
    exact ⟨(bv (dec_dec (by unfold Ahead; omega))), hc⟩
end Go.Proofs.Ytielahdnccocdaa

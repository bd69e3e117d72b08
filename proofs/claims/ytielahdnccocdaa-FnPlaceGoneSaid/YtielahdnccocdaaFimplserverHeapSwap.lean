/-
  The walk of (impl.serverHeap).Swap, written by program: each line names the law of one operation. Conditions: those of the theorem.
-/
import Derived.Test.YtielahdnccocdaaProg
import Derived.Test.YtielahdnccocdaaRank
import Derived.KernelRfl
namespace Go.Proofs.Ytielahdnccocdaa
open Go Go.RowKit
set_option linter.unusedVariables false
set_option linter.unusedSimpArgs false
namespace heapSwap_okF
theorem T53 : TI Try.prog 53 true (.agg #[.int .i64 0, .int .i64 0]) 2 16 := TI.mk' Try.underlying53 rfl (by kernel_rfl)
end heapSwap_okF
open heapSwap_okF in
set_option maxHeartbeats 4000000 in
theorem heapSwap_ok (A : Option Addr) (n c base : Nat) (hs : List Bt) (p q : Int) (w : World) (hO : Own encB 2 w base 53 (.slice A n c) hs) (hb : base ≤ w.heap.size) (hi : 0 ≤ p ∧ p < n) (hj : 0 ≤ q ∧ q < n) :
    Fn Try.prog 61 [(.slice A n c), (.int .i64 p), (.int .i64 q)] w fun v w' => v = .tuple #[] ∧ Own encB 2 w' base 53 (.slice A n c) (swap hs p.toNat q.toNat) ∧ Ch (obl (.slice A n c)) w w' := by
  have hub := hO.lt
  have hlen := hO.le.2.2
  refine fn_of (n := 20) Try.func61 rfl rfl rfl rfl ?_
  have hc : Ch (obl (.slice A n c)) w w := Ch.refl _ _
  refine cw_drawn (fun u => Ch (obl (.slice A n c)) w u) (.free 0 (.free 1 (.free 2 (.free 3 (.free 4 (.free 5 (.free 6 (.free 8 (.free 9 (.free 10 (.two 7 true (.one 11 true (.free 12 (.one 13 true (.free 14 (.one 15 false (.done)))))) 11 true (.one 7 true (.free 12 (.one 13 true (.free 14 (.one 15 false (.done))))))))))))))))) (by kernel_rfl) (by kernel_rfl) (Ch.refl _ _).drew fun K4 hK5 => ?_
  obtain ⟨w1, hw_, hch2, hsz3⟩ : ∃ w1 : World, w1 = w.drew ∧ Ch [] w w1 ∧ w1.heap.size = w.heap.size := ⟨_, rfl, (Ch.refl _ _).drew, rfl⟩
  rw [← hw_]; clear hw_
  have hr6 : Ch (obl (.slice A n c)) w w1 := hch2.sub (fun s hs => by cases hs)
  have hO_r := hO
  have hsz7 := hch2.size
  replace hO := hO.ch0 hch2
  replace hc := hc.step0 hch2
  refine tw_free rfl (w0 rfl) rfl rfl (fun u hu => (pv_move (v := (.slice A n c)) rfl rfl : PV _ _ _ _) u) ?_
  refine tw_free rfl (w0 rfl) rfl rfl (fun u hu => (pv_move (v := (.int .i64 p)) rfl rfl : PV _ _ _ _) u) ?_
  refine tw_free rfl (w0 rfl) rfl rfl (fun u hu => (pv_move (v := (.slice A n c)) rfl rfl : PV _ _ _ _) u) ?_
  refine tw_free rfl (w0 rfl) rfl rfl (fun u hu => (pv_move (v := (.int .i64 q)) rfl rfl : PV _ _ _ _) u) ?_
  refine tw_free rfl (w0 rfl) rfl rfl (fun u hu => (pv_move (v := (.slice A n c)) rfl rfl : PV _ _ _ _) u) ?_
  refine tw_free rfl (w0 rfl) rfl rfl (fun u hu => (pv_move (v := (.int .i64 q)) rfl rfl : PV _ _ _ _) u) ?_
  refine tw_free rfl (w0 rfl) rfl rfl (fun u hu => (pv_idx Try.underlying50 T53 rfl rfl rfl ((hO.rs (fun _ => rfl)).some (k := (q).toNat) (by omega)) (by omega) (by omega) : PV _ _ _ _) u) ?_
  refine tw_free rfl (w0 rfl) rfl rfl (fun u hu => (pv_move (v := (.slice A n c)) rfl rfl : PV _ _ _ _) u) ?_
  refine tw_free rfl (w0 rfl) rfl rfl (fun u hu => (pv_move (v := (.int .i64 p)) rfl rfl : PV _ _ _ _) u) ?_
  refine tw_free rfl (w0 rfl) rfl rfl (fun u hu => (pv_idx Try.underlying50 T53 rfl rfl rfl ((hO.rs (fun _ => rfl)).some (k := (p).toNat) (by omega)) (by omega) (by omega) : PV _ _ _ _) u) ?_
  refine tw_two rfl rfl ?_ ?_
  · -- first 7
    refine  (op_lv (w0 rfl) rfl rfl (lv_loadN T53 rfl rfl rfl (fun j v hv => (hO.rs (fun _ => rfl)).cellE (k := (q).toNat) (by omega) hv)) ?_)
    refine ⟨fun _ => hr6, ?_⟩
    refine tw_one rfl (op_lv (w0 rfl) rfl rfl (lv_loadN T53 rfl rfl rfl (fun j v hv => (hO.rs (fun _ => rfl)).cellE (k := (p).toNat) (by omega) hv)) ?_)
    refine ⟨fun _ => hr6, ?_⟩
    refine tw_free rfl (w0 rfl) rfl rfl (fun u hu => (pv_idx Try.underlying50 T53 rfl rfl rfl ((hO.rs (fun _ => rfl)).some (k := (p).toNat) (by omega)) (by omega) (by omega) : PV _ _ _ _) u) ?_
    refine tw_one rfl (op_store_ownA (k := (p).toNat) (off := 0) (⟨(el hs (q).toNat).s, (el hs (q).toNat).a⟩) T53 hO (fun _ => rfl) (w0 rfl) rfl rfl rfl rfl rfl (one_all rfl) (by omega) (Nat.le_of_ble_eq_true rfl) rfl ?_)
    rintro w8 hO10 hch9
    have hsz11 := hch9.size
    replace hc := hc.step hch9 (fun s hs => .inl hs)
    replace hr6 := hr6.step hch9 (fun s hs => .inl hs)
    clear hO; have hO := hO10; clear hO10
    refine ⟨fun _ => hr6, ?_⟩
    refine tw_free rfl (w0 rfl) rfl rfl (fun u hu => (pv_idx Try.underlying50 T53 rfl rfl rfl ((hO.rs (fun _ => rfl)).some (k := (q).toNat) (by omega)) (by omega) (by omega) : PV _ _ _ _) u) ?_
    refine tw_one rfl (op_store_ownA (k := (q).toNat) (off := 0) (⟨(el hs (p).toNat).s, (el hs (p).toNat).a⟩) T53 hO (fun _ => rfl) (w0 rfl) rfl rfl rfl rfl rfl (one_all rfl) (by omega) (Nat.le_of_ble_eq_true rfl) rfl ?_)
    rintro w12 hO14 hch13
    have hsz15 := hch13.size
    replace hc := hc.step hch13 (fun s hs => .inl hs)
    clear hr6
    clear hO; have hO := hO14; clear hO14
    refine ⟨fun h => (by cases h), ?_⟩
    clear hO_r
    refine tw_done (hK5 _ _ ?_)
    refine fin0n ?_
    exact ⟨rfl, hO, hc⟩
  · -- first 11
    refine  (op_lv (w0 rfl) rfl rfl (lv_loadN T53 rfl rfl rfl (fun j v hv => (hO.rs (fun _ => rfl)).cellE (k := (p).toNat) (by omega) hv)) ?_)
    refine ⟨fun _ => hr6, ?_⟩
    refine tw_one rfl (op_lv (w0 rfl) rfl rfl (lv_loadN T53 rfl rfl rfl (fun j v hv => (hO.rs (fun _ => rfl)).cellE (k := (q).toNat) (by omega) hv)) ?_)
    refine ⟨fun _ => hr6, ?_⟩
    refine tw_free rfl (w0 rfl) rfl rfl (fun u hu => (pv_idx Try.underlying50 T53 rfl rfl rfl ((hO.rs (fun _ => rfl)).some (k := (p).toNat) (by omega)) (by omega) (by omega) : PV _ _ _ _) u) ?_
    refine tw_one rfl (op_store_ownA (k := (p).toNat) (off := 0) (⟨(el hs (q).toNat).s, (el hs (q).toNat).a⟩) T53 hO (fun _ => rfl) (w0 rfl) rfl rfl rfl rfl rfl (one_all rfl) (by omega) (Nat.le_of_ble_eq_true rfl) rfl ?_)
    rintro w16 hO18 hch17
    have hsz19 := hch17.size
    replace hc := hc.step hch17 (fun s hs => .inl hs)
    replace hr6 := hr6.step hch17 (fun s hs => .inl hs)
    clear hO; have hO := hO18; clear hO18
    refine ⟨fun _ => hr6, ?_⟩
    refine tw_free rfl (w0 rfl) rfl rfl (fun u hu => (pv_idx Try.underlying50 T53 rfl rfl rfl ((hO.rs (fun _ => rfl)).some (k := (q).toNat) (by omega)) (by omega) (by omega) : PV _ _ _ _) u) ?_
    refine tw_one rfl (op_store_ownA (k := (q).toNat) (off := 0) (⟨(el hs (p).toNat).s, (el hs (p).toNat).a⟩) T53 hO (fun _ => rfl) (w0 rfl) rfl rfl rfl rfl rfl (one_all rfl) (by omega) (Nat.le_of_ble_eq_true rfl) rfl ?_)
    rintro w20 hO22 hch21
    have hsz23 := hch21.size
    replace hc := hc.step hch21 (fun s hs => .inl hs)
    clear hr6
    clear hO; have hO := hO22; clear hO22
    refine ⟨fun h => (by cases h), ?_⟩
    clear hO_r
    refine tw_done (hK5 _ _ ?_)
    refine fin0n ?_
    exact ⟨rfl, hO, hc⟩
end Go.Proofs.Ytielahdnccocdaa

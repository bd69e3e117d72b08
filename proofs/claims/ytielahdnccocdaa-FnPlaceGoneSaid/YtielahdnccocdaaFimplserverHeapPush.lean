/-
  The walk of (*impl.serverHeap).Push, written by program: each line names the law of one operation. Conditions: those of the theorem.
-/
import Derived.Test.YtielahdnccocdaaProg
import Derived.Test.YtielahdnccocdaaRank
import Derived.Test.YtielahdnccocdaaIface
import Derived.Test.YtielahdnccocdaaFimplserverHeapLen
import Derived.Test.YtielahdnccocdaaFimplserverHeapLess
import Derived.Test.YtielahdnccocdaaFimplserverHeapSwap
import Derived.KernelRfl
namespace Go.Proofs.Ytielahdnccocdaa
open Go Go.RowKit
set_option linter.unusedVariables false
set_option linter.unusedSimpArgs false
namespace heapPushM_okF
theorem T50 : TI Try.prog 50 false (.slice none 0 0) 1 24 := TI.mk' Try.underlying50 rfl (by kernel_rfl)
theorem T53 : TI Try.prog 53 true (.agg #[.int .i64 0, .int .i64 0]) 2 16 := TI.mk' Try.underlying53 rfl (by kernel_rfl)
end heapPushM_okF
open heapPushM_okF in
set_option maxHeartbeats 4000000 in
theorem heapPushM_ok (g base : Nat) (A : Option Addr) (n c : Nat) (hs : List Bt) (xs xa : Int) (w : World) (hB : Blk w g 50 [(.slice A n c)]) (hO : Own encB 2 w base 53 (.slice A n c) hs) (hgo : ∀ s ∈ obl (.slice A n c), s ≠ g) (hb : base ≤ w.heap.size) (hN : n ≤ 1000) (hgb : base ≤ g) :
    Fn Try.prog 60 [(.pointer (some (⟨g, 0, none⟩))), (.iface 53 (.agg #[.int .i64 xs, .int .i64 xa]))] w fun v w' => v = .tuple #[] ∧ HeapIs 50 53 w' base g (hs ++ [⟨xs, xa⟩]) ∧ Below base w w' := by
  have hub := hO.lt
  have hub0 := hO.lt
  have hlen := hO.le.2.2
  have hglt := hB.lt
  refine fn_of (n := 13) Try.func60 rfl rfl rfl rfl ?_
  have hc : Below base w w := Below.refl _ _
  refine cw_drawn (fun u => Ch (g :: obl (.slice A n c)) w u) (.free 0 (.free 1 (.free 2 (.free 4 (.two 3 true (.one 5 true (.one 6 true (.one 7 true (.free 8 (.one 9 false (.done)))))) 5 true (.two 3 true (.one 6 true (.one 7 true (.free 8 (.one 9 false (.done))))) 6 true (.one 3 true (.one 7 true (.free 8 (.one 9 false (.done))))))))))) (by kernel_rfl) (by kernel_rfl) (Ch.refl _ _).drew fun K4 hK5 => ?_
  obtain ⟨w1, hw_, hch2, hsz3⟩ : ∃ w1 : World, w1 = w.drew ∧ Ch [] w w1 ∧ w1.heap.size = w.heap.size := ⟨_, rfl, (Ch.refl _ _).drew, rfl⟩
  rw [← hw_]; clear hw_
  have hr6 : Ch (g :: obl (.slice A n c)) w w1 := hch2.sub (fun s hs => by cases hs)
  have hB_r := hB
  have hO_r := hO
  have hsz7 := hch2.size
  replace hB := hB.ch0 hch2
  replace hO := hO.ch0 hch2
  replace hc := belowC hc (by omega) off0 hch2
  refine tw_free rfl (w0 rfl) rfl rfl (fun u hu => (pv_move (v := (.pointer (some (⟨g, 0, none⟩)))) rfl rfl : PV _ _ _ _) u) ?_
  refine tw_free rfl (w0 rfl) rfl rfl (fun u hu => (pv_move (v := (.pointer (some (⟨g, 0, none⟩)))) rfl rfl : PV _ _ _ _) u) ?_
  refine tw_free rfl (w0 rfl) rfl rfl (fun u hu => (pv_nil rfl rfl : PV _ _ _ _) u) ?_
  refine tw_free rfl (w0 rfl) rfl rfl (fun u hu => (pv_move (v := (.iface 53 (.agg #[.int .i64 xs, .int .i64 xa]))) rfl rfl : PV _ _ _ _) u) ?_
  refine tw_two rfl rfl ?_ ?_
  · -- first 3
    refine  (op_lv (w0 rfl) rfl rfl (lv_load T50 rfl rfl (hB.cell (i := 0) rfl)) ?_)
    refine ⟨fun _ => hr6, ?_⟩
    refine tw_one rfl (op_pv (w0 rfl) rfl rfl (pv_assert Try.underlying53 rfl rfl rfl) ?_)
    refine ⟨fun _ => hr6, ?_⟩
    refine tw_one rfl (op_bslice [(.agg #[(.int .i64 xs), (.int .i64 xa)])] Try.underlying50 T53 (w0 rfl) rfl rfl rfl rfl rfl (by simp [Value.cells]) (by decide) ?_)
    intro g9 w8 hg12 hg13 hK11 hch10
    have hO14 : Own encB 2 w8 w1.heap.size 53 (.slice (some ⟨g9, 0, none⟩) 1 1) ([⟨xs, xa⟩] : List Bt) := Blk.own (xs := ([⟨xs, xa⟩] : List Bt)) hK11 (by omega) rfl (by decide) rfl
    have hsz15 := hch10.size
    replace hB := hB.ch0 hch10
    replace hO := hO.ch0 hch10
    replace hc := belowC hc (by omega) off0 hch10
    replace hr6 := hr6.step0 hch10
    have hub16 := hO14.lt
    refine ⟨fun _ => hr6, ?_⟩
    refine tw_one rfl (op_append Try.underlying50 T53 (fun _ => rfl) rfl (by decide) (fun _ => one_all rfl) (w0 rfl) rfl rfl rfl rfl rfl hO (hO14.rs (fun _ => rfl)) (by unfold maxLen; first | omega | (simp; omega)) (by first | omega | (simp; omega)) (by omega) ?_)
    rintro v17 w18 hO19 hch20 hs21
    have hl22 : (hs ++ ([⟨xs, xa⟩] : List Bt)).length = n + 1 := by first | (have hl0 := (hO14.rs (fun _ => rfl)).len; omega) | (have hl0 := (hO14.rs (fun _ => rfl)).len; simp only [List.length_append, List.length_cons, List.length_nil] at hl0 ⊢; omega) | simp | rfl
    clear hO14
    have hgl24 := hB.lt
    have hsz25 := hch20.size
    replace hB := hB.ch hch20 (fun hs => dj_asg hgo _ hs rfl)
    replace hc := belowC hc (by omega) (hO.off.le (by omega)) hch20
    replace hr6 := hr6.step hch20 (fun s hs => .inl (List.mem_cons_of_mem _ hs))
    have hub26 := hO19.lt
    obtain ⟨A27, c28, hv29, hcap30, hcap31⟩ := hO19.form; subst hv29
    have hdj23 : ∀ s ∈ obl (.slice A27 (hs ++ ([⟨xs, xa⟩] : List Bt)).length c28), s ≠ g := dj_newg hs21 (dj_asg hgo) (by omega)
    refine ⟨fun _ => hr6, ?_⟩
    refine tw_free rfl (w0 rfl) rfl rfl (fun u hu => (pv_nil rfl rfl : PV _ _ _ _) u) ?_
    refine tw_one rfl (op_store_blk T50 hB (w0 rfl) rfl rfl rfl rfl rfl (one_all rfl) (Nat.le_of_ble_eq_true rfl) ?_)
    rintro w32 hB34 hch33
    have hsz35 := hch33.size
    replace hO19 := hO19.ch hch33 (fun s hs => by have := dj_asg hdj23 s hs; simpa using this)
    replace hc := belowC hc (by omega) (off1 (by omega)) hch33
    clear hr6
    replace hB : Blk w32 g 50 [(.slice A27 (hs ++ ([⟨xs, xa⟩] : List Bt)).length c28)] := hB34
    clear hB34
    refine ⟨fun h => (by cases h), ?_⟩
    clear hB_r
    clear hO_r
    refine tw_done (hK5 _ _ ?_)
    refine fin0n ?_
    exact ⟨rfl, heap_as hB hO19 rfl (by omega) (dj_asg hdj23), hc⟩
  · -- first 5
    refine  (op_pv (w0 rfl) rfl rfl (pv_assert Try.underlying53 rfl rfl rfl) ?_)
    refine ⟨fun _ => hr6, ?_⟩
    refine tw_two rfl rfl ?_ ?_
    · -- first 3
      refine  (op_lv (w0 rfl) rfl rfl (lv_load T50 rfl rfl (hB.cell (i := 0) rfl)) ?_)
      refine ⟨fun _ => hr6, ?_⟩
      refine tw_one rfl (op_bslice [(.agg #[(.int .i64 xs), (.int .i64 xa)])] Try.underlying50 T53 (w0 rfl) rfl rfl rfl rfl rfl (by simp [Value.cells]) (by decide) ?_)
      intro g37 w36 hg40 hg41 hK39 hch38
      have hO42 : Own encB 2 w36 w1.heap.size 53 (.slice (some ⟨g37, 0, none⟩) 1 1) ([⟨xs, xa⟩] : List Bt) := Blk.own (xs := ([⟨xs, xa⟩] : List Bt)) hK39 (by omega) rfl (by decide) rfl
      have hsz43 := hch38.size
      replace hB := hB.ch0 hch38
      replace hO := hO.ch0 hch38
      replace hc := belowC hc (by omega) off0 hch38
      replace hr6 := hr6.step0 hch38
      have hub44 := hO42.lt
      refine ⟨fun _ => hr6, ?_⟩
      refine tw_one rfl (op_append Try.underlying50 T53 (fun _ => rfl) rfl (by decide) (fun _ => one_all rfl) (w0 rfl) rfl rfl rfl rfl rfl hO (hO42.rs (fun _ => rfl)) (by unfold maxLen; first | omega | (simp; omega)) (by first | omega | (simp; omega)) (by omega) ?_)
      rintro v45 w46 hO47 hch48 hs49
      have hl50 : (hs ++ ([⟨xs, xa⟩] : List Bt)).length = n + 1 := by first | (have hl0 := (hO42.rs (fun _ => rfl)).len; omega) | (have hl0 := (hO42.rs (fun _ => rfl)).len; simp only [List.length_append, List.length_cons, List.length_nil] at hl0 ⊢; omega) | simp | rfl
      clear hO42
      have hgl52 := hB.lt
      have hsz53 := hch48.size
      replace hB := hB.ch hch48 (fun hs => dj_asg hgo _ hs rfl)
      replace hc := belowC hc (by omega) (hO.off.le (by omega)) hch48
      replace hr6 := hr6.step hch48 (fun s hs => .inl (List.mem_cons_of_mem _ hs))
      have hub54 := hO47.lt
      obtain ⟨A55, c56, hv57, hcap58, hcap59⟩ := hO47.form; subst hv57
      have hdj51 : ∀ s ∈ obl (.slice A55 (hs ++ ([⟨xs, xa⟩] : List Bt)).length c56), s ≠ g := dj_newg hs49 (dj_asg hgo) (by omega)
      refine ⟨fun _ => hr6, ?_⟩
      refine tw_free rfl (w0 rfl) rfl rfl (fun u hu => (pv_nil rfl rfl : PV _ _ _ _) u) ?_
      refine tw_one rfl (op_store_blk T50 hB (w0 rfl) rfl rfl rfl rfl rfl (one_all rfl) (Nat.le_of_ble_eq_true rfl) ?_)
      rintro w60 hB62 hch61
      have hsz63 := hch61.size
      replace hO47 := hO47.ch hch61 (fun s hs => by have := dj_asg hdj51 s hs; simpa using this)
      replace hc := belowC hc (by omega) (off1 (by omega)) hch61
      clear hr6
      replace hB : Blk w60 g 50 [(.slice A55 (hs ++ ([⟨xs, xa⟩] : List Bt)).length c56)] := hB62
      clear hB62
      refine ⟨fun h => (by cases h), ?_⟩
      clear hB_r
      clear hO_r
      refine tw_done (hK5 _ _ ?_)
      refine fin0n ?_
      exact ⟨rfl, heap_as hB hO47 rfl (by omega) (dj_asg hdj51), hc⟩
    · -- first 6
      refine  (op_bslice [(.agg #[(.int .i64 xs), (.int .i64 xa)])] Try.underlying50 T53 (w0 rfl) rfl rfl rfl rfl rfl (by simp [Value.cells]) (by decide) ?_)
      intro g65 w64 hg68 hg69 hK67 hch66
      have hO70 : Own encB 2 w64 w1.heap.size 53 (.slice (some ⟨g65, 0, none⟩) 1 1) ([⟨xs, xa⟩] : List Bt) := Blk.own (xs := ([⟨xs, xa⟩] : List Bt)) hK67 (by omega) rfl (by decide) rfl
      have hsz71 := hch66.size
      replace hB := hB.ch0 hch66
      replace hO := hO.ch0 hch66
      replace hc := belowC hc (by omega) off0 hch66
      replace hr6 := hr6.step0 hch66
      have hub72 := hO70.lt
      refine ⟨fun _ => hr6, ?_⟩
      refine tw_one rfl (op_lv (w0 rfl) rfl rfl (lv_load T50 rfl rfl (hB.cell (i := 0) rfl)) ?_)
      refine ⟨fun _ => hr6, ?_⟩
      refine tw_one rfl (op_append Try.underlying50 T53 (fun _ => rfl) rfl (by decide) (fun _ => one_all rfl) (w0 rfl) rfl rfl rfl rfl rfl hO (hO70.rs (fun _ => rfl)) (by unfold maxLen; first | omega | (simp; omega)) (by first | omega | (simp; omega)) (by omega) ?_)
      rintro v73 w74 hO75 hch76 hs77
      have hl78 : (hs ++ ([⟨xs, xa⟩] : List Bt)).length = n + 1 := by first | (have hl0 := (hO70.rs (fun _ => rfl)).len; omega) | (have hl0 := (hO70.rs (fun _ => rfl)).len; simp only [List.length_append, List.length_cons, List.length_nil] at hl0 ⊢; omega) | simp | rfl
      clear hO70
      have hgl80 := hB.lt
      have hsz81 := hch76.size
      replace hB := hB.ch hch76 (fun hs => dj_asg hgo _ hs rfl)
      replace hc := belowC hc (by omega) (hO.off.le (by omega)) hch76
      replace hr6 := hr6.step hch76 (fun s hs => .inl (List.mem_cons_of_mem _ hs))
      have hub82 := hO75.lt
      obtain ⟨A83, c84, hv85, hcap86, hcap87⟩ := hO75.form; subst hv85
      have hdj79 : ∀ s ∈ obl (.slice A83 (hs ++ ([⟨xs, xa⟩] : List Bt)).length c84), s ≠ g := dj_newg hs77 (dj_asg hgo) (by omega)
      refine ⟨fun _ => hr6, ?_⟩
      refine tw_free rfl (w0 rfl) rfl rfl (fun u hu => (pv_nil rfl rfl : PV _ _ _ _) u) ?_
      refine tw_one rfl (op_store_blk T50 hB (w0 rfl) rfl rfl rfl rfl rfl (one_all rfl) (Nat.le_of_ble_eq_true rfl) ?_)
      rintro w88 hB90 hch89
      have hsz91 := hch89.size
      replace hO75 := hO75.ch hch89 (fun s hs => by have := dj_asg hdj79 s hs; simpa using this)
      replace hc := belowC hc (by omega) (off1 (by omega)) hch89
      clear hr6
      replace hB : Blk w88 g 50 [(.slice A83 (hs ++ ([⟨xs, xa⟩] : List Bt)).length c84)] := hB90
      clear hB90
      refine ⟨fun h => (by cases h), ?_⟩
      clear hB_r
      clear hO_r
      refine tw_done (hK5 _ _ ?_)
      refine fin0n ?_
      exact ⟨rfl, heap_as hB hO75 rfl (by omega) (dj_asg hdj79), hc⟩
end Go.Proofs.Ytielahdnccocdaa

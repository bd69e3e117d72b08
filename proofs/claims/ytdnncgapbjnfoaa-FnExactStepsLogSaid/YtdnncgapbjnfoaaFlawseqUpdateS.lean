/-
  The walk of laws.eqUpdateS, written by program: each line names the law of one operation. Conditions: those of the theorem.
-/
import Derived.Test.YtdnncgapbjnfoaaProg
import Derived.Test.YtdnncgapbjnfoaaBeats
import Derived.Test.YtdnncgapbjnfoaaFlawseqUpdate
import Derived.KernelRfl
namespace Go.Proofs.Ytdnncgapbjnfoaa
open Go Go.RowKit
set_option linter.unusedVariables false
set_option linter.unusedSimpArgs false
namespace eqUpdateS_okF
theorem T33 : TI Try.prog 33 true (.agg #[.int .i64 0, .int .i64 0]) 2 16 := TI.mk' Try.underlying33 rfl (by kernel_rfl)
theorem C34 : Callable Try.prog 34 := ⟨_, Try.func34, by kernel_rfl, by kernel_rfl⟩
end eqUpdateS_okF
open eqUpdateS_okF in
set_option maxHeartbeats 4000000 in
theorem eqUpdateS_ok (A B : Option Addr) (n c m d : Nat) (xs ys : List Bt) (w : World) (hX : RS encB 2 w w.heap.size A n xs) (hY : RS encB 2 w w.heap.size B m ys) (hn : n ≤ 1099511627776) :
    Fn Try.prog 19 [(.slice A n c), (.slice B m d)] w fun v w' => v = .bool (dec (xs = ys)) ∧ Ch [] w w' := by
  have hlx := hX.len; have hly := hY.len
  refine fn_of (n := 27) Try.func19 rfl rfl rfl rfl ?_
  have hc : Ch [] w w := Ch.refl _ _
  refine cw_seq fun K1 hK2 => ?_
  refine cw_region fun K3 hK4 => ?_
  refine rw_cons (op_pv (w0 rfl) rfl rfl (pv_assign (v := (.bool false)) rfl rfl) ?_)
  refine rw_nil (hK4 _ _ ?_)
  refine hK2 _ _ ?_
  refine cw_seq fun K5 hK6 => ?_
  refine cw_seq fun K7 hK8 => ?_
  refine cw_region fun K9 hK10 => ?_
  refine rw_cons (op_pv (w0 rfl) rfl rfl (pv_move (v := (.slice A n c)) rfl rfl) ?_)
  refine rw_cons (op_pv (w0 rfl) rfl rfl (pv_len Try.underlying29 rfl rfl) ?_)
  refine rw_cons (op_pv (w0 rfl) rfl rfl (pv_move (v := (.slice B m d)) rfl rfl) ?_)
  refine rw_cons (op_pv (w0 rfl) rfl rfl (pv_len Try.underlying29 rfl rfl) ?_)
  refine rw_cons (op_pv (w0 rfl) rfl rfl (pv_neq rfl rfl rfl) ?_)
  refine rw_nil (hK10 _ _ ?_)
  refine hK8 _ _ ?_
  refine cw_cond rfl (fun h11 => ?_) (fun h11 => ?_)
  · -- then
    replace h11 := of_decide_eq_true h11
    refine cw_seq fun K12 hK13 => ?_
    refine cw_region fun K14 hK15 => ?_
    refine rw_cons (op_pv (w0 rfl) rfl rfl (pv_assign (v := (.bool false)) rfl rfl) ?_)
    refine rw_nil (hK15 _ _ ?_)
    refine hK13 _ _ ?_
    refine cw_ret ?_
    refine fin1 rfl ?_
    exact ⟨bvf (fun e => by subst e; omega), hc⟩
  · -- else
    replace h11 := of_decide_eq_false h11
    refine cw_skip ?_
    refine hK6 _ _ ?_
    refine cw_seq fun K16 hK17 => ?_
    refine cw_seq fun K18 hK19 => ?_
    refine cw_region fun K20 hK21 => ?_
    refine rw_cons (op_pv (w0 rfl) rfl rfl (pv_assign (v := (.int .i64 0)) rfl rfl) ?_)
    refine rw_nil (hK21 _ _ ?_)
    refine hK19 _ _ ?_
    refine cw_block ?_
    refine cw_loop (σ := Nat) (fun k => [(5, (.int .i64 (k : Int))), (0, (.slice A n c)), (1, (.slice B m d))]) (fun k W => (k ≤ n ∧ ∀ j, j < k → el xs j = el ys j) ∧ RS encB 2 W w.heap.size A n xs ∧ RS encB 2 W w.heap.size B m ys ∧ Ch [] w W) (fun k => n - k) 0 ?_ ?_ ?_
    · exact ⟨rfl, rfl, rfl, trivial⟩
    · refine ⟨⟨Nat.zero_le _, fun j hj => by omega⟩, hX, hY, hc⟩
    · rintro k J26 w22 ⟨⟨hk, hye⟩, hX, hY, hc⟩ K23 hK24
      have hsz28 := hc.size
      refine cw_seq fun K29 hK30 => ?_
      refine cw_seq fun K31 hK32 => ?_
      refine cw_region fun K33 hK34 => ?_
      refine rw_cons (op_pv (w0 rfl) rfl rfl (pv_move (v := (.int .i64 (k : Int))) rfl rfl) ?_)
      refine rw_cons (op_pv (w0 rfl) rfl rfl (pv_move (v := (.slice A n c)) rfl rfl) ?_)
      refine rw_cons (op_pv (w0 rfl) rfl rfl (pv_len Try.underlying29 rfl rfl) ?_)
      refine rw_cons (op_pv (w0 rfl) rfl rfl (pv_lss rfl rfl rfl) ?_)
      refine rw_nil (hK34 _ _ ?_)
      refine hK32 _ _ ?_
      refine cw_cond rfl (fun h35 => ?_) (fun h35 => ?_)
      · -- then
        replace h35 := of_decide_eq_true h35
        refine cw_skip ?_
        refine hK30 _ _ ?_
        refine cw_seq fun K36 hK37 => ?_
        refine cw_block ?_
        refine cw_seq fun K38 hK39 => ?_
        refine cw_drawn (fun u => Ch [] w22 u) (.free 0 (.free 1 (.free 2 (.free 3 (.free 4 (.free 5 (.free 6 (.free 7 (.one 8 true (.free 9 (.done))))))))))) (by kernel_rfl) (by kernel_rfl) (Ch.refl _ _).drew fun K43 hK44 => ?_
        obtain ⟨w40, hw_, hch41, hsz42⟩ : ∃ w1 : World, w1 = w22.drew ∧ Ch [] w22 w1 ∧ w1.heap.size = w22.heap.size := ⟨_, rfl, (Ch.refl _ _).drew, rfl⟩
        rw [← hw_]; clear hw_
        have hr45 : Ch [] w22 w40 := hch41.sub (fun s hs => by cases hs)
        have hX_r := hX
        have hY_r := hY
        have hsz46 := hch41.size
        replace hX := hX.ch0 hch41
        replace hY := hY.ch0 hch41
        replace hc := hc.step0 hch41
        refine tw_free rfl (w0 rfl) rfl rfl (fun u hu => (pv_move (v := (.slice A n c)) rfl rfl : PV _ _ _ _) u) ?_
        refine tw_free rfl (w0 rfl) rfl rfl (fun u hu => (pv_move (v := (.int .i64 (k : Int))) rfl rfl : PV _ _ _ _) u) ?_
        refine tw_free rfl (w0 rfl) rfl rfl (fun u hu => (pv_idx Try.underlying29 T33 rfl rfl rfl (hX.some (k := k) (by omega)) (by omega) (by omega) : PV _ _ _ _) u) ?_
        refine tw_free rfl (w0 rfl) rfl rfl (fun u hu => lv_loadN T33 rfl rfl rfl (fun j v hv => (hX_r.ch0 hu).cellE (k := k) (by omega) hv)) ?_
        refine tw_free rfl (w0 rfl) rfl rfl (fun u hu => (pv_move (v := (.slice B m d)) rfl rfl : PV _ _ _ _) u) ?_
        refine tw_free rfl (w0 rfl) rfl rfl (fun u hu => (pv_move (v := (.int .i64 (k : Int))) rfl rfl : PV _ _ _ _) u) ?_
        refine tw_free rfl (w0 rfl) rfl rfl (fun u hu => (pv_idx Try.underlying29 T33 rfl rfl rfl (hY.some (k := k) (by omega)) (by omega) (by omega) : PV _ _ _ _) u) ?_
        refine tw_free rfl (w0 rfl) rfl rfl (fun u hu => lv_loadN T33 rfl rfl rfl (fun j v hv => (hY_r.ch0 hu).cellE (k := k) (by omega) hv)) ?_
        refine tw_one rfl (op_call (w0 rfl) rfl rfl (rc_call C34 rfl rfl) (eqUpdate_ok (el xs k).s (el xs k).a (el ys k).s (el ys k).a _ ) ?_)
        rintro _ w47 ⟨rfl, hch48⟩
        have hsz49 := hch48.size
        replace hX := hX.ch0 hch48
        replace hY := hY.ch0 hch48
        replace hc := hc.step0 hch48
        replace hr45 := hr45.step0 hch48
        refine ⟨fun _ => hr45, ?_⟩
        refine tw_free rfl (w0 rfl) rfl rfl (fun u hu => (pv_not rfl rfl : PV _ _ _ _) u) ?_
        try clear hX_r
        try clear hY_r
        refine tw_done (hK44 _ _ ?_)
        refine hK39 _ _ ?_
        refine cw_cond rfl (fun h50 => ?_) (fun h50 => ?_)
        · -- then
          replace h50 := not_t h50
          replace h50 := dec_f h50
          refine cw_seq fun K51 hK52 => ?_
          refine cw_region fun K53 hK54 => ?_
          refine rw_cons (op_pv (w0 rfl) rfl rfl (pv_assign (v := (.bool false)) rfl rfl) ?_)
          refine rw_nil (hK54 _ _ ?_)
          refine hK52 _ _ ?_
          refine cw_ret ?_
          refine fin1 rfl ?_
          exact ⟨bvf (fun e => by subst e; omega), hc⟩
        · -- else
          replace h50 := not_f h50
          replace h50 := dec_t h50
          refine cw_skip ?_
          refine hK37 _ _ ?_
          refine cw_region fun K55 hK56 => ?_
          refine rw_cons (op_pv (w0 rfl) rfl rfl (pv_move (v := (.int .i64 (k : Int))) rfl rfl) ?_)
          refine rw_cons (op_pv (w0 rfl) rfl rfl (pv_add rfl rfl rfl (by omega) (by omega)) ?_)
          refine rw_cons (op_pv (w0 rfl) rfl rfl (pv_assign (v := (.int .i64 ((k : Int) + 1))) rfl rfl) ?_)
          refine rw_nil (hK56 _ _ ?_)
          refine hK24 _ _ (k + 1) ⟨(iv (by omega)), rfl, rfl, trivial⟩ ⟨?_, hX, hY, hc⟩ ?_
          · refine ⟨by omega, fun j hj => ?_⟩
            by_cases hjk : j = k
            · subst hjk; exact bt_ext (by omega) (by omega)
            · exact hye j (by omega)
          · (first | omega | (simp only []; omega))
      · -- else
        replace h35 := of_decide_eq_false h35
        refine cw_exit ?_
        refine hK17 _ _ ?_
        refine cw_seq fun K57 hK58 => ?_
        refine cw_region fun K59 hK60 => ?_
        refine rw_cons (op_pv (w0 rfl) rfl rfl (pv_assign (v := (.bool true)) rfl rfl) ?_)
        refine rw_nil (hK60 _ _ ?_)
        refine hK58 _ _ ?_
        refine cw_ret ?_
        refine fin1 rfl ?_
        exact ⟨bvt (eq_of_el (by omega) (fun j hj => hye j (by omega))), hc⟩
theorem eqUpdateS_same (A B : Option Addr) (n c m d : Nat) (xs : List Bt) (w : World) (hX : RS encB 2 w w.heap.size A n xs) (hY : RS encB 2 w w.heap.size B m xs) (hn : n ≤ 1099511627776) :
    Fn Try.prog 19 [(.slice A n c), (.slice B m d)] w fun v w' => v = .bool true ∧ Ch [] w w' :=
  (eqUpdateS_ok A B n c m d xs xs w hX hY hn).mono fun v w' h => by rw [dec_yes rfl] at h; exact h

end Go.Proofs.Ytdnncgapbjnfoaa

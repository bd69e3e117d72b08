/-
  The walk of (impl.behind[*impl.stateArray]).after, written by program: each line names the law of one operation. Conditions: those of the theorem.
-/
import Derived.Test.YtpnenfglogggmaaProg
import Derived.Test.YtpnenfglogggmaaBase
import Derived.Test.YtpnenfglogggmaaArr
import Derived.Test.YtpnenfglogggmaaFimplBaseRun1
import Derived.KernelRfl
namespace Go.Proofs.Ytpnenfglogggmaa
open Go Go.RowKit
set_option linter.unusedVariables false
set_option linter.unusedSimpArgs false
namespace after_okF
theorem T3 : TI Try.prog 3 false (.int .i64 0) 1 8 := TI.mk' Try.underlying3 rfl (by kernel_rfl)
theorem T59 : TI Try.prog 59 false (.pointer none) 1 8 := TI.mk' Try.underlying59 rfl (by kernel_rfl)
theorem T62 : TI Try.prog 62 true (.agg #[.int .i64 0, .pointer none]) 2 16 := TI.mk' Try.underlying62 rfl (by kernel_rfl)
theorem T65 : TI Try.prog 65 true (.agg #[.int .i64 0, .int .i64 0]) 2 16 := TI.mk' Try.underlying65 rfl (by kernel_rfl)
theorem F62_0 : FldOK Try.prog 62 0 0 := ⟨_, _, 0, Try.underlying62, rfl, rfl, by kernel_rfl⟩
theorem F62_1 : FldOK Try.prog 62 1 1 := ⟨_, _, 0, Try.underlying62, rfl, rfl, by kernel_rfl⟩
theorem C38 : Callable Try.prog 38 := ⟨_, Try.func38, by kernel_rfl, by kernel_rfl⟩
theorem B62_0I_1P (a0 : Int) (a1 : Addr) (u : World) : (Instr.build 62 #[(0, .int .i64 a0), (1, .pointer (some a1))]).run Try.prog u = .ok (.agg #[.int .i64 a0, .pointer (some a1)]) u := by kernel_rfl
end after_okF
open after_okF in
set_option maxHeartbeats 4000000 in
theorem after_ok (g base : Nat) (xs : List Int) (m : Int) (A : Option Addr) (n c : Nat) (log : List Bt) (w : World) (hO : Own encI 1 w base 80 (.slice (some ⟨g, 0, none⟩) 5 5) xs) (hR : RS encB 2 w base A n log) (hb : base ≤ w.heap.size) (hlog : ∀ j, j < log.length → 0 ≤ (el log j).s ∧ (el log j).s ≤ 4) (hm : 0 ≤ m ∧ m ≤ 999) (hn : n ≤ 12) :
    Fn Try.prog 37 [(.agg #[(.int .i64 m), (.pointer (some (⟨g, 0, none⟩)))]), (.slice A n c), (.func (.func 38) #[] #[])] w fun v w' => v = .agg #[.int .i64 (m + n), .pointer (some ⟨g, 0, none⟩)] ∧ Own encI 1 w' base 80 (.slice (some ⟨g, 0, none⟩) 5 5) (runL xs log) ∧ Ch (obl (.slice (some ⟨g, 0, none⟩) 5 5)) w w' := by
  have hub := hO.lt
  have hub0 := hO.lt
  have hoff0 := hO.off
  have hlen := hR.len
  refine fn_of (n := 26) Try.func37 rfl rfl rfl rfl ?_
  have hc : Ch (obl (.slice (some ⟨g, 0, none⟩) 5 5)) w w := Ch.refl _ _
  refine cw_seq fun K1 hK2 => ?_
  refine cw_region fun K3 hK4 => ?_
  refine rw_cons (op_box (w0 rfl) rfl rfl rfl rfl ?_)
  rintro g6 w5 hg9 hg10 hB8 hch7
  have hsz11 := hch7.size
  replace hO := hO.ch0 hch7
  replace hR := hR.ch0 hch7
  replace hc := hc.step0 hch7
  replace hB8 : Blk w5 g6 62 [(.int .i64 m), (.pointer (some (⟨g, 0, none⟩)))] := hB8
  refine rw_cons (op_alloc T62 (w0 rfl) rfl rfl rfl ?_)
  rintro g13 w12 hg16 hg17 hB15 hch14
  have hsz18 := hch14.size
  replace hO := hO.ch0 hch14
  replace hR := hR.ch0 hch14
  replace hB8 := hB8.ch0 hch14
  replace hc := hc.step0 hch14
  replace hB15 : Blk w12 g13 62 [(.int .i64 0), (.pointer none)] := hB15
  refine rw_nil (hK4 _ _ ?_)
  refine hK2 _ _ ?_
  refine cw_seq fun K19 hK20 => ?_
  refine cw_seq fun K21 hK22 => ?_
  refine cw_region fun K23 hK24 => ?_
  refine rw_cons (op_pv (w0 rfl) rfl rfl (pv_move (v := (.slice A n c)) rfl rfl) ?_)
  refine rw_cons (op_pv (w0 rfl) rfl rfl (pv_len Try.underlying34 rfl rfl) ?_)
  refine rw_cons (op_pv (w0 rfl) rfl rfl (pv_move (v := (.int .i64 0)) rfl rfl) ?_)
  refine rw_nil (hK24 _ _ ?_)
  refine hK22 _ _ ?_
  refine cw_block ?_
  refine cw_loop (σ := Nat) (fun k => [(11, (.int .i64 (k : Int))), (2, (.func (.func 38) #[] #[])), (3, (.pointer (some (⟨g6, 0, none⟩)))), (6, (.pointer (some (⟨g13, 0, none⟩)))), (9, (.slice A n c)), (10, (.int .i64 (n : Int)))]) (fun k W => (k ≤ n) ∧ RS encB 2 W base A n log ∧ Blk W g13 62 [(.int .i64 0), (.pointer none)] ∧ Own encI 1 W base 80 (.slice (some ⟨g, 0, none⟩) 5 5) (runL xs (log.take k)) ∧ Blk W g6 62 [(.int .i64 (m + (k : Int))), (.pointer (some (⟨g, 0, none⟩)))] ∧ Ch (obl (.slice (some ⟨g, 0, none⟩) 5 5)) w W) (fun k => n - k) 0 ?_ ?_ ?_
  · exact ⟨rfl, rfl, rfl, rfl, rfl, rfl, trivial⟩
  · refine ⟨Nat.zero_le _, hR, hB15, hO, (by rw [show m + ((0 : Nat) : Int) = m by omega]; exact hB8), hc⟩
  · rintro k J29 w25 ⟨hk, hR, hB15, hO, hB8, hc⟩ K26 hK27
    have hsz31 := hc.size
    have hbl32 := hB15.lt
    have hbl33 := hB8.lt
    have hlk := hlog k
    refine cw_seq fun K34 hK35 => ?_
    refine cw_region fun K36 hK37 => ?_
    refine rw_cons (op_pv (w0 rfl) rfl rfl (pv_lss rfl rfl rfl) ?_)
    refine rw_nil (hK37 _ _ ?_)
    refine hK35 _ _ ?_
    refine cw_seq fun K38 hK39 => ?_
    refine cw_cond rfl (fun h40 => ?_) (fun h40 => ?_)
    · -- then
      replace h40 := of_decide_eq_true h40
      refine cw_skip ?_
      refine hK39 _ _ ?_
      refine cw_seq fun K41 hK42 => ?_
      refine cw_block ?_
      refine cw_seq fun K43 hK44 => ?_
      refine cw_region fun K45 hK46 => ?_
      refine rw_cons (op_pv (w0 rfl) rfl rfl (pv_idx Try.underlying34 T65 rfl rfl rfl (hR.some (k := k) (by omega)) (by omega) (by omega)) ?_)
      refine rw_cons (op_lv (w0 rfl) rfl rfl (lv_loadN T65 rfl rfl rfl (fun j v hv => hR.cellE (k := k) (by omega) hv)) ?_)
      refine rw_cons (op_alloc T65 (w0 rfl) rfl rfl rfl ?_)
      rintro g48 w47 hg51 hg52 hB50 hch49
      have hsz53 := hch49.size
      replace hR := hR.ch0 hch49
      replace hB15 := hB15.ch0 hch49
      replace hO := hO.ch0 hch49
      replace hB8 := hB8.ch0 hch49
      replace hc := hc.step0 hch49
      replace hB50 : Blk w47 g48 65 [(.int .i64 0), (.int .i64 0)] := hB50
      refine rw_cons (op_store_blk T65 hB50 (w0 rfl) rfl rfl rfl rfl rfl (one_all rfl) (Nat.le_of_ble_eq_true rfl) ?_)
      rintro w54 hB56 hch55
      have hsz57 := hch55.size
      replace hR := hR.ch hch55 (off1 (by omega))
      replace hB15 := hB15.ch hch55 (by simp; omega)
      replace hO := hO.ch hch55 (fun s hs => by first | (have := hO.off s hs; simp; omega) | (have := hub0 s hs; simp; omega))
      replace hB8 := hB8.ch hch55 (by simp; omega)
      replace hc := hc.step hch55 (fun s hs => by simp at hs; right; omega)
      replace hB50 : Blk w54 g48 65 [(.int .i64 (el log k).s), (.int .i64 (el log k).a)] := hB56
      clear hB56
      refine rw_nil (hK46 _ _ ?_)
      refine hK44 _ _ ?_
      refine cw_drawn (fun u => Ch (obl (.slice (some ⟨g, 0, none⟩) 5 5)) w54 u) (.free 0 (.free 1 (.free 2 (.free 3 (.free 4 (.free 5 (.free 6 (.one 7 true (.free 8 (.one 9 false (.done))))))))))) (by kernel_rfl) (by kernel_rfl) (Ch.refl _ _).drew fun K61 hK62 => ?_
      obtain ⟨w58, hw_, hch59, hsz60⟩ : ∃ w1 : World, w1 = w54.drew ∧ Ch [] w54 w1 ∧ w1.heap.size = w54.heap.size := ⟨_, rfl, (Ch.refl _ _).drew, rfl⟩
      rw [← hw_]; clear hw_
      have hr63 : Ch (obl (.slice (some ⟨g, 0, none⟩) 5 5)) w54 w58 := hch59.sub (fun s hs => by cases hs)
      have hR_r := hR
      have hB15_r := hB15
      have hO_r := hO
      have hB8_r := hB8
      have hB50_r := hB50
      have hsz64 := hch59.size
      replace hR := hR.ch0 hch59
      replace hB15 := hB15.ch0 hch59
      replace hO := hO.ch0 hch59
      replace hB8 := hB8.ch0 hch59
      replace hB50 := hB50.ch0 hch59
      replace hc := hc.step0 hch59
      refine tw_free rfl (w0 rfl) rfl rfl (fun u hu => (pv_fld F62_0 rfl rfl : PV _ _ _ _) u) ?_
      refine tw_free rfl (w0 rfl) rfl rfl (fun u hu => lv_load T3 rfl rfl ((hB8_r.ch hu (fun hs => by have := hub0 _ hs; omega)).cellA (i := 0) rfl)) ?_
      refine tw_free rfl (w0 rfl) rfl rfl (fun u hu => (pv_add rfl rfl rfl (by omega) (by omega) : PV _ _ _ _) u) ?_
      refine tw_free rfl (w0 rfl) rfl rfl (fun u hu => (pv_move (v := (.func (.func 38) #[] #[])) rfl rfl : PV _ _ _ _) u) ?_
      refine tw_free rfl (w0 rfl) rfl rfl (fun u hu => (pv_fld F62_1 rfl rfl : PV _ _ _ _) u) ?_
      refine tw_free rfl (w0 rfl) rfl rfl (fun u hu => lv_load T59 rfl rfl ((hB8_r.ch hu (fun hs => by have := hub0 _ hs; omega)).cellA (i := 1) rfl)) ?_
      refine tw_free rfl (w0 rfl) rfl rfl (fun u hu => lv_loadN T65 rfl rfl rfl (fun j v hv => (hB50_r.ch hu (fun hs => by have := hub0 _ hs; omega)).cellA hv)) ?_
      refine tw_one rfl (op_call (w0 rfl) rfl rfl (rc_callV C38 rfl rfl rfl) (run1_ok _ _ _ (el log k).s (el log k).a _ hO (by omega) (by omega)) ?_)
      rintro _ w65 ⟨rfl, hO66, hch67⟩
      have hsz68 := hch67.size
      replace hR := hR.ch hch67 (hO.off.le (by omega))
      replace hB15 := hB15.ch hch67 (by first | (refine hO.off.not ?_; omega) | (intro hs; have := hub0 _ hs; omega))
      replace hB8 := hB8.ch hch67 (by first | (refine hO.off.not ?_; omega) | (intro hs; have := hub0 _ hs; omega))
      replace hB50 := hB50.ch hch67 (by first | (refine hO.off.not ?_; omega) | (intro hs; have := hub0 _ hs; omega))
      replace hc := hc.step hch67 (fun s hs => .inl hs)
      replace hr63 := hr63.step hch67 (fun s hs => .inl hs)
      clear hO; have hO := hO66; clear hO66
      refine ⟨fun _ => hr63, ?_⟩
      refine tw_free rfl (w0 rfl) rfl rfl (fun u hu => (pv_build rfl rfl (B62_0I_1P _ _) : PV _ _ _ _) u) ?_
      refine tw_one rfl (op_store_blk T62 hB8 (w0 rfl) rfl rfl rfl rfl rfl (one_all rfl) (Nat.le_of_ble_eq_true rfl) ?_)
      rintro w69 hB71 hch70
      have hsz72 := hch70.size
      replace hR := hR.ch hch70 (off1 (by omega))
      replace hB15 := hB15.ch hch70 (by simp; omega)
      replace hO := hO.ch hch70 (fun s hs => by first | (have := hO.off s hs; simp; omega) | (have := hub0 s hs; simp; omega))
      replace hB50 := hB50.ch hch70 (by simp; omega)
      replace hc := hc.step hch70 (fun s hs => by simp at hs; right; omega)
      clear hr63
      replace hB8 : Blk w69 g6 62 [(.int .i64 ((m + (k : Int)) + 1)), (.pointer (some (⟨g, 0, none⟩)))] := hB71
      clear hB71
      refine ⟨fun h => (by cases h), ?_⟩
      clear hB15_r
      clear hB50_r
      clear hB8_r
      clear hO_r
      clear hR_r
      refine tw_done (hK62 _ _ ?_)
      refine hK42 _ _ ?_
      refine cw_region fun K73 hK74 => ?_
      refine rw_cons (op_pv (w0 rfl) rfl rfl (pv_add rfl rfl rfl (by omega) (by omega)) ?_)
      refine rw_cons (op_pv (w0 rfl) rfl rfl (pv_move (v := (.int .i64 ((k : Int) + 1))) rfl rfl) ?_)
      refine rw_nil (hK74 _ _ ?_)
      refine hK27 _ _ (k + 1) ⟨(iv (by omega)), rfl, rfl, rfl, rfl, rfl, trivial⟩ ⟨?_, hR, hB15, (by rw [runL_snoc xs (by omega)]; exact hO), (by rw [show m + ((k + 1 : Nat) : Int) = m + (k : Int) + 1 by omega]; exact hB8), hc⟩ ?_
      · omega
      · (first | omega | (simp only []; omega))
    · -- else
      replace h40 := of_decide_eq_false h40
      refine cw_exit ?_
      refine hK20 _ _ ?_
      refine cw_seq fun K75 hK76 => ?_
      refine cw_region fun K77 hK78 => ?_
      refine rw_cons (op_lv (w0 rfl) rfl rfl (lv_loadN T62 rfl rfl rfl (fun j v hv => hB8.cellA hv)) ?_)
      refine rw_cons (op_store_blk T62 hB15 (w0 rfl) rfl rfl rfl rfl rfl (one_all rfl) (Nat.le_of_ble_eq_true rfl) ?_)
      rintro w79 hB81 hch80
      have hsz82 := hch80.size
      replace hR := hR.ch hch80 (off1 (by omega))
      replace hO := hO.ch hch80 (fun s hs => by first | (have := hO.off s hs; simp; omega) | (have := hub0 s hs; simp; omega))
      replace hB8 := hB8.ch hch80 (by simp; omega)
      replace hc := hc.step hch80 (fun s hs => by simp at hs; right; omega)
      replace hB15 : Blk w79 g13 62 [(.int .i64 (m + (k : Int))), (.pointer (some (⟨g, 0, none⟩)))] := hB81
      clear hB81
      refine rw_nil (hK78 _ _ ?_)
      refine hK76 _ _ ?_
      refine cw_ret ?_
      refine finC T62 rfl rfl (fun j v hv => hB15.cellA hv) ?_
      have hkn : k = n := by omega
      subst hkn
      rw [el_take_all log k (by omega)] at hO
      exact ⟨rfl, hO, hc⟩
end Go.Proofs.Ytpnenfglogggmaa

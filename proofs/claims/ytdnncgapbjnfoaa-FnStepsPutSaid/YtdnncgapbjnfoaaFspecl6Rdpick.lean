/-
  The walk of (*spec.l6Rd).pick, written by program: each line names the law of one operation. Conditions: those of the theorem.
-/
import Derived.Test.YtdnncgapbjnfoaaProg
import Derived.Test.YtdnncgapbjnfoaaKinds
import Derived.KernelRfl
namespace Go.Proofs.Ytdnncgapbjnfoaa
open Go Go.RowKit
set_option linter.unusedVariables false
set_option linter.unusedSimpArgs false
namespace pick_okF
theorem T3 : TI Try.prog 3 false (.int .i64 0) 1 8 := TI.mk' Try.underlying3 rfl (by kernel_rfl)
theorem T5 : TI Try.prog 5 false (.int .u8 0) 1 1 := TI.mk' Try.underlying5 rfl (by kernel_rfl)
theorem T22 : TI Try.prog 22 false (.slice none 0 0) 1 24 := TI.mk' Try.underlying22 rfl (by kernel_rfl)
theorem F62_0 : FldOK Try.prog 62 0 0 := ⟨_, _, 0, Try.underlying62, rfl, rfl, by kernel_rfl⟩
theorem F62_1 : FldOK Try.prog 62 1 1 := ⟨_, _, 0, Try.underlying62, rfl, rfl, by kernel_rfl⟩
end pick_okF
open pick_okF in
set_option maxHeartbeats 4000000 in
theorem pick_ok (g : Nat) (m : Int) (N : Nat) (w : World) (hRd : Rd 62 w g N) (hN : N ≤ 1000000) :
    Fn Try.prog 38 [(.pointer (some (⟨g, 0, none⟩))), (.int .i64 m)] w fun v w' => ∃ r : Int, v = .int .i64 r ∧ 0 ≤ r ∧ (1 ≤ m → r < m) ∧ (m < 1 → r = 0) ∧ Rd 62 w' g (N + 1) ∧ Ch [g] w w' := by
  obtain ⟨A, len, c, p, bs, hB, hlen, hR, hp0, hpN⟩ := hRd
  refine fn_of (n := 99) Try.func38 rfl rfl rfl rfl ?_
  have hc : Ch [g] w w := Ch.refl _ _
  refine cw_seq fun K1 hK2 => ?_
  refine cw_region fun K3 hK4 => ?_
  refine rw_cons (op_pv (w0 rfl) rfl rfl (pv_assign (v := (.int .i64 0)) rfl rfl) ?_)
  refine rw_nil (hK4 _ _ ?_)
  refine hK2 _ _ ?_
  refine cw_seq fun K5 hK6 => ?_
  refine cw_region fun K7 hK8 => ?_
  refine rw_cons (op_pv (w0 rfl) rfl rfl (pv_move (v := (.pointer (some (⟨g, 0, none⟩)))) rfl rfl) ?_)
  refine rw_cons (op_pv (w0 rfl) rfl rfl (pv_move (v := (.pointer (some (⟨g, 0, none⟩)))) rfl rfl) ?_)
  refine rw_cons (op_pv (w0 rfl) rfl rfl (pv_nil rfl rfl) ?_)
  refine rw_cons (op_pv (w0 rfl) rfl rfl (pv_fld F62_1 rfl rfl) ?_)
  refine rw_cons (op_lv (w0 rfl) rfl rfl (lv_load T3 rfl rfl (hB.cellA (i := 1) rfl)) ?_)
  refine rw_cons (op_pv (w0 rfl) rfl rfl (pv_add rfl rfl rfl (by omega) (by omega)) ?_)
  refine rw_cons (op_pv (w0 rfl) rfl rfl (pv_nil rfl rfl) ?_)
  refine rw_cons (op_pv (w0 rfl) rfl rfl (pv_fld F62_1 rfl rfl) ?_)
  refine rw_cons (op_store_blk T3 hB (w0 rfl) rfl rfl rfl rfl rfl (one_all rfl) (Nat.le_of_ble_eq_true rfl) ?_)
  rintro w9 hB11 hch10
  have hsz12 := hch10.size
  replace hR := hR.ch hch10 (off1 (by omega))
  replace hc := hc.step hch10 (fun s hs => .inl hs)
  replace hB : Blk w9 g 62 [(.slice A len c), (.int .i64 (p + 1))] := hB11
  clear hB11
  refine rw_nil (hK8 _ _ ?_)
  refine hK6 _ _ ?_
  refine cw_seq fun K13 hK14 => ?_
  refine cw_seq fun K15 hK16 => ?_
  refine cw_region fun K17 hK18 => ?_
  refine rw_cons (op_pv (w0 rfl) rfl rfl (pv_move (v := (.int .i64 m)) rfl rfl) ?_)
  refine rw_cons (op_pv (w0 rfl) rfl rfl (pv_lss rfl rfl rfl) ?_)
  refine rw_cons (op_pv (w0 rfl) rfl rfl (pv_move (v := (.bool (decide (m < 1)))) rfl rfl) ?_)
  refine rw_split 17 rfl (fun hb19 => ?_) (fun hb19 => ?_)
  · -- yes
    replace hb19 := of_decide_eq_true hb19
    refine rw_cons (op_pass (w1n2 rfl rfl rfl rfl) rfl rfl ?_)
    refine rw_cons (op_pass (w1n2 rfl rfl rfl rfl) rfl rfl ?_)
    refine rw_cons (op_pass (w1n2 rfl rfl rfl rfl) rfl rfl ?_)
    refine rw_cons (op_pass (w1n2 rfl rfl rfl rfl) rfl rfl ?_)
    refine rw_cons (op_pass (w1n2 rfl rfl rfl rfl) rfl rfl ?_)
    refine rw_cons (op_pass (w1n2 rfl rfl rfl rfl) rfl rfl ?_)
    refine rw_cons (op_pv (w0 rfl) rfl rfl (pv_pickT (v := (.bool true)) rfl rfl rfl) ?_)
    refine rw_nil (hK18 _ _ ?_)
    refine hK16 _ _ ?_
    refine cw_cond rfl (fun h20 => ?_) (fun h20 => ?_)
    · -- then
      clear h20
      refine cw_seq fun K21 hK22 => ?_
      refine cw_region fun K23 hK24 => ?_
      refine rw_cons (op_pv (w0 rfl) rfl rfl (pv_assign (v := (.int .i64 0)) rfl rfl) ?_)
      refine rw_nil (hK24 _ _ ?_)
      refine hK22 _ _ ?_
      refine cw_ret ?_
      refine fin1 rfl ?_
      exact ⟨_, rfl, by omega, by omega, by omega, ⟨_, _, _, _, _, hB, hlen, hR, by omega, by omega⟩, hc⟩
    · -- else
      cases h20
  · -- no
    replace hb19 := of_decide_eq_false hb19
    refine rw_cons (op_pv (w1y rfl rfl rfl rfl) rfl rfl (pv_move (v := (.pointer (some (⟨g, 0, none⟩)))) rfl rfl) ?_)
    refine rw_cons (op_pv (w1y rfl rfl rfl rfl) rfl rfl (pv_nil rfl rfl) ?_)
    refine rw_cons (op_pv (w1y rfl rfl rfl rfl) rfl rfl (pv_fld F62_0 rfl rfl) ?_)
    refine rw_cons (op_lv (w1y rfl rfl rfl rfl) rfl rfl (lv_load T22 rfl rfl (hB.cellA (i := 0) rfl)) ?_)
    refine rw_cons (op_pv (w1y rfl rfl rfl rfl) rfl rfl (pv_len Try.underlying22 rfl rfl) ?_)
    refine rw_cons (op_pv (w1y rfl rfl rfl rfl) rfl rfl (pv_eql rfl rfl rfl) ?_)
    refine rw_cons (op_pv (w0 rfl) rfl rfl (pv_pickF (v := (.bool (decide (((len : Int) : Int) = 0)))) rfl rfl rfl) ?_)
    refine rw_nil (hK18 _ _ ?_)
    refine hK16 _ _ ?_
    refine cw_cond rfl (fun h25 => ?_) (fun h25 => ?_)
    · -- then
      replace h25 := of_decide_eq_true h25
      refine cw_seq fun K26 hK27 => ?_
      refine cw_region fun K28 hK29 => ?_
      refine rw_cons (op_pv (w0 rfl) rfl rfl (pv_assign (v := (.int .i64 0)) rfl rfl) ?_)
      refine rw_nil (hK29 _ _ ?_)
      refine hK27 _ _ ?_
      refine cw_ret ?_
      refine fin1 rfl ?_
      exact ⟨_, rfl, by omega, by omega, by omega, ⟨_, _, _, _, _, hB, hlen, hR, by omega, by omega⟩, hc⟩
    · -- else
      replace h25 := of_decide_eq_false h25
      refine cw_skip ?_
      refine hK14 _ _ ?_
      refine cw_seq fun K30 hK31 => ?_
      refine cw_region fun K32 hK33 => ?_
      refine rw_cons (op_pv (w0 rfl) rfl rfl (pv_move (v := (.pointer (some (⟨g, 0, none⟩)))) rfl rfl) ?_)
      refine rw_cons (op_pv (w0 rfl) rfl rfl (pv_nil rfl rfl) ?_)
      refine rw_cons (op_pv (w0 rfl) rfl rfl (pv_fld F62_1 rfl rfl) ?_)
      refine rw_cons (op_lv (w0 rfl) rfl rfl (lv_load T3 rfl rfl (hB.cellA (i := 1) rfl)) ?_)
      refine rw_cons (op_pv (w0 rfl) rfl rfl (pv_sub rfl rfl rfl (by omega) (by omega)) ?_)
      refine rw_cons (op_pv (w0 rfl) rfl rfl (pv_assign (v := (.int .i64 ((p + 1) - 1))) rfl rfl) ?_)
      refine rw_nil (hK33 _ _ ?_)
      refine hK31 _ _ ?_
      refine cw_seq fun K34 hK35 => ?_
      refine cw_seq fun K36 hK37 => ?_
      refine cw_region fun K38 hK39 => ?_
      refine rw_cons (op_pv (w0 rfl) rfl rfl (pv_move (v := (.int .i64 ((p + 1) - 1))) rfl rfl) ?_)
      refine rw_cons (op_pv (w0 rfl) rfl rfl (pv_move (v := (.pointer (some (⟨g, 0, none⟩)))) rfl rfl) ?_)
      refine rw_cons (op_pv (w0 rfl) rfl rfl (pv_nil rfl rfl) ?_)
      refine rw_cons (op_pv (w0 rfl) rfl rfl (pv_fld F62_0 rfl rfl) ?_)
      refine rw_cons (op_lv (w0 rfl) rfl rfl (lv_load T22 rfl rfl (hB.cellA (i := 0) rfl)) ?_)
      refine rw_cons (op_pv (w0 rfl) rfl rfl (pv_len Try.underlying22 rfl rfl) ?_)
      refine rw_cons (op_pv (w0 rfl) rfl rfl (pv_lss rfl rfl rfl) ?_)
      refine rw_nil (hK39 _ _ ?_)
      refine hK37 _ _ ?_
      refine cw_cond rfl (fun h40 => ?_) (fun h40 => ?_)
      · -- then
        replace h40 := of_decide_eq_true h40
        refine cw_seq fun K41 hK42 => ?_
        refine cw_region fun K43 hK44 => ?_
        refine rw_cons (op_pv (w0 rfl) rfl rfl (pv_move (v := (.pointer (some (⟨g, 0, none⟩)))) rfl rfl) ?_)
        refine rw_cons (op_pv (w0 rfl) rfl rfl (pv_nil rfl rfl) ?_)
        refine rw_cons (op_pv (w0 rfl) rfl rfl (pv_fld F62_0 rfl rfl) ?_)
        refine rw_cons (op_lv (w0 rfl) rfl rfl (lv_load T22 rfl rfl (hB.cellA (i := 0) rfl)) ?_)
        refine rw_cons (op_pv (w0 rfl) rfl rfl (pv_move (v := (.int .i64 ((p + 1) - 1))) rfl rfl) ?_)
        refine rw_cons (op_pv (w0 rfl) rfl rfl (pv_idx Try.underlying22 T5 rfl rfl rfl (hR.some (k := ((p + 1) - 1).toNat) (by omega)) (by omega) (by omega)) ?_)
        have hu845 := (el bs ((p + 1) - 1).toNat).toNat_lt
        refine rw_cons (op_lv (w0 rfl) rfl rfl (lv_load T5 rfl rfl (hR.cell0 (k := ((p + 1) - 1).toNat) (by omega) rfl)) ?_)
        refine rw_cons (op_pv (w0 rfl) rfl rfl (pv_conv8 Try.underlying5 Try.underlying3 rfl rfl (by omega) (by omega)) ?_)
        refine rw_cons (op_pv (w0 rfl) rfl rfl (pv_move (v := (.int .i64 m)) rfl rfl) ?_)
        refine rw_cons (op_pv (w0 rfl) rfl rfl (pv_rem rfl rfl rfl (by omega) (by omega)) ?_)
        have hq46 := Int.emod_nonneg ((el bs ((p + 1) - 1).toNat).toNat : Int) (b := m) (by omega); have hq47 := Int.emod_lt_of_pos ((el bs ((p + 1) - 1).toNat).toNat : Int) (b := m) (by omega)
        refine rw_cons (op_pv (w0 rfl) rfl rfl (pv_assign (v := (.int .i64 (((el bs ((p + 1) - 1).toNat).toNat : Int) % m))) rfl rfl) ?_)
        refine rw_nil (hK44 _ _ ?_)
        refine hK42 _ _ ?_
        refine cw_ret ?_
        refine fin1 rfl ?_
        exact ⟨_, rfl, by omega, by omega, by omega, ⟨_, _, _, _, _, hB, hlen, hR, by omega, by omega⟩, hc⟩
      · -- else
        replace h40 := of_decide_eq_false h40
        refine cw_skip ?_
        refine hK35 _ _ ?_
        refine cw_seq fun K48 hK49 => ?_
        refine cw_drawn (fun u => Ch [] w9 u) (.free 0 (.free 1 (.free 2 (.free 3 (.free 4 (.free 5 (.free 6 (.free 7 (.free 8 (.free 9 (.free 10 (.free 11 (.free 12 (.free 13 (.free 14 (.free 15 (.free 16 (.free 17 (.free 18 (.free 19 (.free 20 (.free 21 (.free 22 (.free 23 (.free 24 (.free 25 (.free 26 (.free 27 (.free 28 (.free 29 (.free 30 (.free 31 (.free 32 (.free 33 (.free 34 (.free 35 (.free 36 (.free 37 (.free 38 (.free 39 (.free 40 (.free 41 (.free 42 (.free 43 (.free 44 (.free 45 (.done))))))))))))))))))))))))))))))))))))))))))))))) (by kernel_rfl) (by kernel_rfl) (Ch.refl _ _).drew fun K53 hK54 => ?_
        obtain ⟨w50, hw_, hch51, hsz52⟩ : ∃ w1 : World, w1 = w9.drew ∧ Ch [] w9 w1 ∧ w1.heap.size = w9.heap.size := ⟨_, rfl, (Ch.refl _ _).drew, rfl⟩
        rw [← hw_]; clear hw_
        have hr55 : Ch [] w9 w50 := hch51.sub (fun s hs => by cases hs)
        have hB_r := hB
        have hR_r := hR
        have hsz56 := hch51.size
        replace hB := hB.ch0 hch51
        replace hR := hR.ch0 hch51
        replace hc := hc.step0 hch51
        refine tw_free rfl (w0 rfl) rfl rfl (fun u hu => (pv_move (v := (.pointer (some (⟨g, 0, none⟩)))) rfl rfl : PV _ _ _ _) u) ?_
        refine tw_free rfl (w0 rfl) rfl rfl (fun u hu => (pv_nil rfl rfl : PV _ _ _ _) u) ?_
        refine tw_free rfl (w0 rfl) rfl rfl (fun u hu => (pv_fld F62_0 rfl rfl : PV _ _ _ _) u) ?_
        refine tw_free rfl (w0 rfl) rfl rfl (fun u hu => lv_load T22 rfl rfl ((hB_r.ch hu (by simp)).cellA (i := 0) rfl)) ?_
        refine tw_free rfl (w0 rfl) rfl rfl (fun u hu => (pv_move (v := (.int .i64 ((p + 1) - 1))) rfl rfl : PV _ _ _ _) u) ?_
        refine tw_free rfl (w0 rfl) rfl rfl (fun u hu => (pv_move (v := (.pointer (some (⟨g, 0, none⟩)))) rfl rfl : PV _ _ _ _) u) ?_
        refine tw_free rfl (w0 rfl) rfl rfl (fun u hu => (pv_nil rfl rfl : PV _ _ _ _) u) ?_
        refine tw_free rfl (w0 rfl) rfl rfl (fun u hu => (pv_fld F62_0 rfl rfl : PV _ _ _ _) u) ?_
        refine tw_free rfl (w0 rfl) rfl rfl (fun u hu => lv_load T22 rfl rfl ((hB_r.ch hu (by simp)).cellA (i := 0) rfl)) ?_
        refine tw_free rfl (w0 rfl) rfl rfl (fun u hu => (pv_len Try.underlying22 rfl rfl : PV _ _ _ _) u) ?_
        refine tw_free rfl (w0 rfl) rfl rfl (fun u hu => (pv_rem rfl rfl rfl (by omega) (by omega) : PV _ _ _ _) u) ?_
        have hq57 := Int.emod_nonneg ((p + 1) - 1) (b := (len : Int)) (by omega); have hq58 := Int.emod_lt_of_pos ((p + 1) - 1) (b := (len : Int)) (by omega)
        refine tw_free rfl (w0 rfl) rfl rfl (fun u hu => (pv_idx Try.underlying22 T5 rfl rfl rfl (hR.some (k := (((p + 1) - 1) % (len : Int)).toNat) (by omega)) (by omega) (by omega) : PV _ _ _ _) u) ?_
        refine tw_free rfl (w0 rfl) rfl rfl (fun u hu => lv_load T5 rfl rfl ((hR_r.ch0 hu).cell0 (k := (((p + 1) - 1) % (len : Int)).toNat) (by omega) rfl)) ?_
        have hu859 := (el bs (((p + 1) - 1) % (len : Int)).toNat).toNat_lt
        refine tw_free rfl (w0 rfl) rfl rfl (fun u hu => (pv_conv8 Try.underlying5 Try.underlying3 rfl rfl (by omega) (by omega) : PV _ _ _ _) u) ?_
        refine tw_free rfl (w0 rfl) rfl rfl (fun u hu => (pv_mul rfl rfl rfl (by omega) (by omega) : PV _ _ _ _) u) ?_
        refine tw_free rfl (w0 rfl) rfl rfl (fun u hu => (pv_move (v := (.pointer (some (⟨g, 0, none⟩)))) rfl rfl : PV _ _ _ _) u) ?_
        refine tw_free rfl (w0 rfl) rfl rfl (fun u hu => (pv_nil rfl rfl : PV _ _ _ _) u) ?_
        refine tw_free rfl (w0 rfl) rfl rfl (fun u hu => (pv_fld F62_0 rfl rfl : PV _ _ _ _) u) ?_
        refine tw_free rfl (w0 rfl) rfl rfl (fun u hu => lv_load T22 rfl rfl ((hB_r.ch hu (by simp)).cellA (i := 0) rfl)) ?_
        refine tw_free rfl (w0 rfl) rfl rfl (fun u hu => (pv_move (v := (.int .i64 ((p + 1) - 1))) rfl rfl : PV _ _ _ _) u) ?_
        refine tw_free rfl (w0 rfl) rfl rfl (fun u hu => (pv_mul rfl rfl rfl (by omega) (by omega) : PV _ _ _ _) u) ?_
        refine tw_free rfl (w0 rfl) rfl rfl (fun u hu => (pv_add rfl rfl rfl (by omega) (by omega) : PV _ _ _ _) u) ?_
        refine tw_free rfl (w0 rfl) rfl rfl (fun u hu => (pv_move (v := (.pointer (some (⟨g, 0, none⟩)))) rfl rfl : PV _ _ _ _) u) ?_
        refine tw_free rfl (w0 rfl) rfl rfl (fun u hu => (pv_nil rfl rfl : PV _ _ _ _) u) ?_
        refine tw_free rfl (w0 rfl) rfl rfl (fun u hu => (pv_fld F62_0 rfl rfl : PV _ _ _ _) u) ?_
        refine tw_free rfl (w0 rfl) rfl rfl (fun u hu => lv_load T22 rfl rfl ((hB_r.ch hu (by simp)).cellA (i := 0) rfl)) ?_
        refine tw_free rfl (w0 rfl) rfl rfl (fun u hu => (pv_len Try.underlying22 rfl rfl : PV _ _ _ _) u) ?_
        refine tw_free rfl (w0 rfl) rfl rfl (fun u hu => (pv_rem rfl rfl rfl (by omega) (by omega) : PV _ _ _ _) u) ?_
        have hq60 := Int.emod_nonneg ((((p + 1) - 1) * 7) + 3) (b := (len : Int)) (by omega); have hq61 := Int.emod_lt_of_pos ((((p + 1) - 1) * 7) + 3) (b := (len : Int)) (by omega)
        refine tw_free rfl (w0 rfl) rfl rfl (fun u hu => (pv_idx Try.underlying22 T5 rfl rfl rfl (hR.some (k := (((((p + 1) - 1) * 7) + 3) % (len : Int)).toNat) (by omega)) (by omega) (by omega) : PV _ _ _ _) u) ?_
        refine tw_free rfl (w0 rfl) rfl rfl (fun u hu => lv_load T5 rfl rfl ((hR_r.ch0 hu).cell0 (k := (((((p + 1) - 1) * 7) + 3) % (len : Int)).toNat) (by omega) rfl)) ?_
        have hu862 := (el bs (((((p + 1) - 1) * 7) + 3) % (len : Int)).toNat).toNat_lt
        refine tw_free rfl (w0 rfl) rfl rfl (fun u hu => (pv_conv8 Try.underlying5 Try.underlying3 rfl rfl (by omega) (by omega) : PV _ _ _ _) u) ?_
        refine tw_free rfl (w0 rfl) rfl rfl (fun u hu => (pv_mul rfl rfl rfl (by omega) (by omega) : PV _ _ _ _) u) ?_
        refine tw_free rfl (w0 rfl) rfl rfl (fun u hu => (pv_add rfl rfl rfl (by omega) (by omega) : PV _ _ _ _) u) ?_
        refine tw_free rfl (w0 rfl) rfl rfl (fun u hu => (pv_move (v := (.int .i64 ((p + 1) - 1))) rfl rfl : PV _ _ _ _) u) ?_
        refine tw_free rfl (w0 rfl) rfl rfl (fun u hu => (pv_mul rfl rfl rfl (by omega) (by omega) : PV _ _ _ _) u) ?_
        refine tw_free rfl (w0 rfl) rfl rfl (fun u hu => (pv_add rfl rfl rfl (by omega) (by omega) : PV _ _ _ _) u) ?_
        refine tw_free rfl (w0 rfl) rfl rfl (fun u hu => (pv_move (v := (.int .i64 ((p + 1) - 1))) rfl rfl : PV _ _ _ _) u) ?_
        refine tw_free rfl (w0 rfl) rfl rfl (fun u hu => (pv_move (v := (.pointer (some (⟨g, 0, none⟩)))) rfl rfl : PV _ _ _ _) u) ?_
        refine tw_free rfl (w0 rfl) rfl rfl (fun u hu => (pv_nil rfl rfl : PV _ _ _ _) u) ?_
        refine tw_free rfl (w0 rfl) rfl rfl (fun u hu => (pv_fld F62_0 rfl rfl : PV _ _ _ _) u) ?_
        refine tw_free rfl (w0 rfl) rfl rfl (fun u hu => lv_load T22 rfl rfl ((hB_r.ch hu (by simp)).cellA (i := 0) rfl)) ?_
        refine tw_free rfl (w0 rfl) rfl rfl (fun u hu => (pv_len Try.underlying22 rfl rfl : PV _ _ _ _) u) ?_
        refine tw_free rfl (w0 rfl) rfl rfl (fun u hu => (pv_quo rfl rfl rfl (by omega) (by omega) (by omega) : PV _ _ _ _) u) ?_
        have hq63 := Int.ediv_nonneg (a := ((p + 1) - 1)) (b := (len : Int)) (by omega) (by omega); have hq64 := Int.ediv_le_self (a := ((p + 1) - 1)) (len : Int) (by omega)
        refine tw_free rfl (w0 rfl) rfl rfl (fun u hu => (pv_mul rfl rfl rfl (by omega) (by omega) : PV _ _ _ _) u) ?_
        refine tw_free rfl (w0 rfl) rfl rfl (fun u hu => (pv_add rfl rfl rfl (by omega) (by omega) : PV _ _ _ _) u) ?_
        refine tw_free rfl (w0 rfl) rfl rfl (fun u hu => (pv_assign (v := (.int .i64 ((((((el bs (((p + 1) - 1) % (len : Int)).toNat).toNat : Int) * 131) + (((el bs (((((p + 1) - 1) * 7) + 3) % (len : Int)).toNat).toNat : Int) * 1117)) + (((p + 1) - 1) * 29)) + ((((p + 1) - 1) / (len : Int)) * 53)))) rfl rfl : PV _ _ _ _) u) ?_
        try clear hB_r
        try clear hR_r
        refine tw_done (hK54 _ _ ?_)
        refine hK49 _ _ ?_
        refine cw_seq fun K65 hK66 => ?_
        refine cw_region fun K67 hK68 => ?_
        refine rw_cons (op_pv (w0 rfl) rfl rfl (pv_move (v := (.int .i64 ((((((el bs (((p + 1) - 1) % (len : Int)).toNat).toNat : Int) * 131) + (((el bs (((((p + 1) - 1) * 7) + 3) % (len : Int)).toNat).toNat : Int) * 1117)) + (((p + 1) - 1) * 29)) + ((((p + 1) - 1) / (len : Int)) * 53)))) rfl rfl) ?_)
        refine rw_cons (op_pv (w0 rfl) rfl rfl (pv_move (v := (.int .i64 ((((((el bs (((p + 1) - 1) % (len : Int)).toNat).toNat : Int) * 131) + (((el bs (((((p + 1) - 1) * 7) + 3) % (len : Int)).toNat).toNat : Int) * 1117)) + (((p + 1) - 1) * 29)) + ((((p + 1) - 1) / (len : Int)) * 53)))) rfl rfl) ?_)
        refine rw_cons (op_pv (w0 rfl) rfl rfl (pv_quo rfl rfl rfl (by omega) (by omega) (by omega)) ?_)
        refine rw_cons (op_pv (w0 rfl) rfl rfl (pv_xor rfl rfl rfl) ?_)
        have hq69 := xor_nn ((((((el bs (((p + 1) - 1) % (len : Int)).toNat).toNat : Int) * 131) + (((el bs (((((p + 1) - 1) * 7) + 3) % (len : Int)).toNat).toNat : Int) * 1117)) + (((p + 1) - 1) * 29)) + ((((p + 1) - 1) / (len : Int)) * 53)) (((((((el bs (((p + 1) - 1) % (len : Int)).toNat).toNat : Int) * 131) + (((el bs (((((p + 1) - 1) * 7) + 3) % (len : Int)).toNat).toNat : Int) * 1117)) + (((p + 1) - 1) * 29)) + ((((p + 1) - 1) / (len : Int)) * 53)) / 64) (by omega) (by omega) (by omega) (by omega)
        refine rw_cons (op_pv (w0 rfl) rfl rfl (pv_assign (v := (.int .i64 (bits .xor .i64 ((((((el bs (((p + 1) - 1) % (len : Int)).toNat).toNat : Int) * 131) + (((el bs (((((p + 1) - 1) * 7) + 3) % (len : Int)).toNat).toNat : Int) * 1117)) + (((p + 1) - 1) * 29)) + ((((p + 1) - 1) / (len : Int)) * 53)) (((((((el bs (((p + 1) - 1) % (len : Int)).toNat).toNat : Int) * 131) + (((el bs (((((p + 1) - 1) * 7) + 3) % (len : Int)).toNat).toNat : Int) * 1117)) + (((p + 1) - 1) * 29)) + ((((p + 1) - 1) / (len : Int)) * 53)) / 64)))) rfl rfl) ?_)
        refine rw_nil (hK68 _ _ ?_)
        refine hK66 _ _ ?_
        refine cw_seq fun K70 hK71 => ?_
        refine cw_region fun K72 hK73 => ?_
        refine rw_cons (op_pv (w0 rfl) rfl rfl (pv_move (v := (.int .i64 (bits .xor .i64 ((((((el bs (((p + 1) - 1) % (len : Int)).toNat).toNat : Int) * 131) + (((el bs (((((p + 1) - 1) * 7) + 3) % (len : Int)).toNat).toNat : Int) * 1117)) + (((p + 1) - 1) * 29)) + ((((p + 1) - 1) / (len : Int)) * 53)) (((((((el bs (((p + 1) - 1) % (len : Int)).toNat).toNat : Int) * 131) + (((el bs (((((p + 1) - 1) * 7) + 3) % (len : Int)).toNat).toNat : Int) * 1117)) + (((p + 1) - 1) * 29)) + ((((p + 1) - 1) / (len : Int)) * 53)) / 64)))) rfl rfl) ?_)
        refine rw_cons (op_pv (w0 rfl) rfl rfl (pv_move (v := (.int .i64 m)) rfl rfl) ?_)
        refine rw_cons (op_pv (w0 rfl) rfl rfl (pv_rem rfl rfl rfl (by omega) (by omega)) ?_)
        have hq74 := Int.emod_nonneg (bits .xor .i64 ((((((el bs (((p + 1) - 1) % (len : Int)).toNat).toNat : Int) * 131) + (((el bs (((((p + 1) - 1) * 7) + 3) % (len : Int)).toNat).toNat : Int) * 1117)) + (((p + 1) - 1) * 29)) + ((((p + 1) - 1) / (len : Int)) * 53)) (((((((el bs (((p + 1) - 1) % (len : Int)).toNat).toNat : Int) * 131) + (((el bs (((((p + 1) - 1) * 7) + 3) % (len : Int)).toNat).toNat : Int) * 1117)) + (((p + 1) - 1) * 29)) + ((((p + 1) - 1) / (len : Int)) * 53)) / 64)) (b := m) (by omega); have hq75 := Int.emod_lt_of_pos (bits .xor .i64 ((((((el bs (((p + 1) - 1) % (len : Int)).toNat).toNat : Int) * 131) + (((el bs (((((p + 1) - 1) * 7) + 3) % (len : Int)).toNat).toNat : Int) * 1117)) + (((p + 1) - 1) * 29)) + ((((p + 1) - 1) / (len : Int)) * 53)) (((((((el bs (((p + 1) - 1) % (len : Int)).toNat).toNat : Int) * 131) + (((el bs (((((p + 1) - 1) * 7) + 3) % (len : Int)).toNat).toNat : Int) * 1117)) + (((p + 1) - 1) * 29)) + ((((p + 1) - 1) / (len : Int)) * 53)) / 64)) (b := m) (by omega)
        refine rw_cons (op_pv (w0 rfl) rfl rfl (pv_assign (v := (.int .i64 ((bits .xor .i64 ((((((el bs (((p + 1) - 1) % (len : Int)).toNat).toNat : Int) * 131) + (((el bs (((((p + 1) - 1) * 7) + 3) % (len : Int)).toNat).toNat : Int) * 1117)) + (((p + 1) - 1) * 29)) + ((((p + 1) - 1) / (len : Int)) * 53)) (((((((el bs (((p + 1) - 1) % (len : Int)).toNat).toNat : Int) * 131) + (((el bs (((((p + 1) - 1) * 7) + 3) % (len : Int)).toNat).toNat : Int) * 1117)) + (((p + 1) - 1) * 29)) + ((((p + 1) - 1) / (len : Int)) * 53)) / 64)) % m))) rfl rfl) ?_)
        refine rw_nil (hK73 _ _ ?_)
        refine hK71 _ _ ?_
        refine cw_ret ?_
        refine fin1 rfl ?_
        exact ⟨_, rfl, by omega, by omega, by omega, ⟨_, _, _, _, _, hB, hlen, hR, by omega, by omega⟩, hc⟩
end Go.Proofs.Ytdnncgapbjnfoaa

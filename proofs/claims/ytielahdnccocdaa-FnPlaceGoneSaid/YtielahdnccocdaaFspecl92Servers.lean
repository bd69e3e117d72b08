/-
  The walk of spec.l92Servers, written by program: each line names the law of one operation. Conditions: those of the theorem.
-/
import Derived.Test.YtielahdnccocdaaProg
import Derived.Test.YtielahdnccocdaaPlaces
import Derived.Test.YtielahdnccocdaaFspecl6Rdpick
import Derived.KernelRfl
namespace Go.Proofs.Ytielahdnccocdaa
open Go Go.RowKit
set_option linter.unusedVariables false
set_option linter.unusedSimpArgs false
namespace l92Servers_okF
theorem T3 : TI Try.prog 3 false (.int .i64 0) 1 8 := TI.mk' Try.underlying3 rfl (by kernel_rfl)
theorem C33 : Callable Try.prog 33 := ⟨_, Try.func33, by kernel_rfl, by kernel_rfl⟩
end l92Servers_okF
open l92Servers_okF in
set_option maxHeartbeats 4000000 in
theorem l92Servers_ok (g : Nat) (N : Nat) (w : World) (hRd : Rd 56 w g N) (hN : N ≤ 900000) :
    Fn Try.prog 34 [(.pointer (some (⟨g, 0, none⟩)))] w fun v w' => ∃ A c xs, v = .slice A xs.length c ∧ Own encI 1 w' w.heap.size 3 (.slice A xs.length c) xs ∧ xs.length ≤ 8 ∧ Rd 56 w' g (N + 14) ∧ Ch [g] w w' := by
  have hg0 := hRd.lt
  refine fn_of (n := 66) Try.func34 rfl rfl rfl rfl ?_
  have hc : Ch [g] w w := Ch.refl _ _
  refine cw_seq fun K1 hK2 => ?_
  refine cw_region fun K3 hK4 => ?_
  refine rw_cons (op_pv (w0 rfl) rfl rfl (pv_assign (v := (.slice none 0 0)) rfl rfl) ?_)
  refine rw_nil (hK4 _ _ ?_)
  refine hK2 _ _ ?_
  refine cw_seq fun K5 hK6 => ?_
  refine cw_region fun K7 hK8 => ?_
  refine rw_cons (op_bslice [] Try.underlying24 T3 (w0 rfl) rfl rfl rfl rfl rfl (by simp [Value.cells]) (by decide) ?_)
  intro g10 w9 hg13 hg14 hK12 hch11
  have hO15 : Own encI 1 w9 w.heap.size 3 (.slice (some ⟨g10, 0, none⟩) 0 0) ([] : List Int) := Blk.own (xs := ([] : List Int)) hK12 (by omega) rfl (by decide) rfl
  have hsz16 := hch11.size
  replace hRd := hRd.ch0 hch11
  replace hc := hc.step0 hch11
  have hub17 := hO15.lt
  refine rw_cons (op_pv (w0 rfl) rfl rfl (pv_assign (v := (.slice (some ⟨g10, 0, none⟩) 0 0)) rfl rfl) ?_)
  refine rw_nil (hK8 _ _ ?_)
  refine hK6 _ _ ?_
  refine cw_seq fun K18 hK19 => ?_
  refine cw_seq fun K20 hK21 => ?_
  refine cw_region fun K22 hK23 => ?_
  refine rw_cons (op_pv (w0 rfl) rfl rfl (pv_assign (v := (.int .i64 1)) rfl rfl) ?_)
  refine rw_nil (hK23 _ _ ?_)
  refine hK21 _ _ ?_
  refine cw_block ?_
  refine cw_loop (σ := Nat × (Option Addr) × Nat × (List Int)) (fun ⟨k, A3, c3, xs⟩ => [(3, (.slice A3 xs.length c3)), (4, (.int .i64 ((k : Int) + 1))), (0, (.pointer (some (⟨g, 0, none⟩)))), (2, (.slice none 0 0))]) (fun ⟨k, A3, c3, xs⟩ W => (k ≤ 11 ∧ xs.length ≤ 8) ∧ Own encI 1 W w.heap.size 3 (.slice A3 xs.length c3) xs ∧ Rd 56 W g (N + k) ∧ Ch [g] w W) (fun ⟨k, A3, c3, xs⟩ => 11 - k) (0, (some ⟨g10, 0, none⟩), 0, ([] : List Int)) ?_ ?_ ?_
  · exact ⟨rfl, rfl, rfl, rfl, trivial⟩
  · refine ⟨⟨by omega, by simp⟩, hO15.less (by omega), hRd, hc⟩
  · rintro ⟨k, A3, c3, xs⟩ J28 w24 ⟨⟨hk, hxl⟩, hO15, hRd, hc⟩ K25 hK26
    have hsz30 := hc.size
    have hlt31 := hRd.lt
    have hub17 := hO15.lt
    have hg1 := hRd.lt
    refine cw_seq fun K32 hK33 => ?_
    refine cw_seq fun K34 hK35 => ?_
    refine cw_region fun K36 hK37 => ?_
    refine rw_cons (op_pv (w0 rfl) rfl rfl (pv_move (v := (.int .i64 ((k : Int) + 1))) rfl rfl) ?_)
    refine rw_cons (op_pv (w0 rfl) rfl rfl (pv_lss rfl rfl rfl) ?_)
    refine rw_nil (hK37 _ _ ?_)
    refine hK35 _ _ ?_
    refine cw_cond rfl (fun h38 => ?_) (fun h38 => ?_)
    · -- then
      replace h38 := of_decide_eq_true h38
      refine cw_skip ?_
      refine hK33 _ _ ?_
      refine cw_seq fun K39 hK40 => ?_
      refine cw_block ?_
      refine cw_seq fun K41 hK42 => ?_
      refine cw_region fun K43 hK44 => ?_
      refine rw_cons (op_pv (w0 rfl) rfl rfl (pv_move (v := (.pointer (some (⟨g, 0, none⟩)))) rfl rfl) ?_)
      refine rw_cons (op_call (w0 rfl) rfl rfl (rc_call C33 rfl rfl) (pick_ok _ _ _ _ hRd (by omega)) ?_)
      rintro _ w46 ⟨r45, rfl, hr47, hr48, hr49, hRd50, hch51⟩
      have hsz52 := hch51.size
      replace hO15 := hO15.ch hch51 (fun s hs => by first | (have := hO15.off s hs; simp; omega) | (have := hub17 s hs; simp; omega))
      replace hc := hc.step hch51 (fun s hs => .inl hs)
      clear hRd; have hRd := hRd50; clear hRd50
      refine rw_cons (op_pv (w0 rfl) rfl rfl (pv_eql rfl rfl rfl) ?_)
      refine rw_cons (op_pv (w0 rfl) rfl rfl (pv_move (v := (.bool (decide ((r45 : Int) = 0)))) rfl rfl) ?_)
      refine rw_split 14 rfl (fun hb53 => ?_) (fun hb53 => ?_)
      · -- yes
        replace hb53 := of_decide_eq_true hb53
        refine rw_cons (op_pv (w1y rfl rfl rfl rfl) rfl rfl (pv_move (v := (.slice A3 xs.length c3)) rfl rfl) ?_)
        refine rw_cons (op_pv (w1y rfl rfl rfl rfl) rfl rfl (pv_len Try.underlying24 rfl rfl) ?_)
        refine rw_cons (op_pv (w1y rfl rfl rfl rfl) rfl rfl (pv_lss rfl rfl rfl) ?_)
        refine rw_cons (op_pv (w0 rfl) rfl rfl (pv_pickT (v := (.bool (decide ((xs.length : Int) < 8)))) rfl rfl rfl) ?_)
        refine rw_nil (hK44 _ _ ?_)
        refine hK42 _ _ ?_
        refine cw_cond rfl (fun h54 => ?_) (fun h54 => ?_)
        · -- then
          replace h54 := of_decide_eq_true h54
          refine cw_region fun K55 hK56 => ?_
          refine rw_cons (op_pv (w0 rfl) rfl rfl (pv_move (v := (.slice A3 xs.length c3)) rfl rfl) ?_)
          refine rw_cons (op_pv (w0 rfl) rfl rfl (pv_move (v := (.int .i64 ((k : Int) + 1))) rfl rfl) ?_)
          refine rw_cons (op_pv (w0 rfl) rfl rfl (pv_mul rfl rfl rfl (by omega) (by omega)) ?_)
          refine rw_cons (op_pv (w0 rfl) rfl rfl (pv_rem rfl rfl rfl (by omega) (by omega)) ?_)
          refine rw_cons (op_pv (w0 rfl) rfl rfl (pv_move (v := (.int .i64 ((k : Int) + 1))) rfl rfl) ?_)
          refine rw_cons (op_pv (w0 rfl) rfl rfl (pv_add rfl rfl rfl (by omega) (by omega)) ?_)
          refine rw_cons (op_bslice [(.int .i64 (((((k : Int) + 1) * 7) % 90) + ((k : Int) + 1)))] Try.underlying24 T3 (w0 rfl) rfl rfl rfl rfl rfl (by simp [Value.cells]) (by decide) ?_)
          intro g58 w57 hg61 hg62 hK60 hch59
          have hO63 : Own encI 1 w57 w46.heap.size 3 (.slice (some ⟨g58, 0, none⟩) 1 1) ([((((k : Int) + 1) * 7) % 90) + ((k : Int) + 1)] : List Int) := Blk.own (xs := ([((((k : Int) + 1) * 7) % 90) + ((k : Int) + 1)] : List Int)) hK60 (by omega) rfl (by decide) rfl
          have hsz64 := hch59.size
          replace hO15 := hO15.ch0 hch59
          replace hRd := hRd.ch0 hch59
          replace hc := hc.step0 hch59
          have hub65 := hO63.lt
          refine rw_cons (op_append Try.underlying24 T3 (fun _ => rfl) rfl (by decide) (fun _ => one_all rfl) (w0 rfl) rfl rfl rfl rfl rfl hO15 (hO63.rs (fun _ => rfl)) (by unfold maxLen; first | omega | (simp; omega)) (by first | omega | (simp; omega)) (by omega) ?_)
          rintro v66 w67 hO68 hch69 hs70
          have hl71 : (xs ++ ([((((k : Int) + 1) * 7) % 90) + ((k : Int) + 1)] : List Int)).length = xs.length + 1 := by first | (have hl0 := (hO63.rs (fun _ => rfl)).len; omega) | (have hl0 := (hO63.rs (fun _ => rfl)).len; simp only [List.length_append, List.length_cons, List.length_nil] at hl0 ⊢; omega) | simp | rfl
          clear hO63
          have hsz72 := hch69.size
          replace hRd := hRd.ch hch69 (hO15.off.le (by omega))
          replace hc := hc.step hch69 (fun s hs => .inr (hO15.off s hs))
          have hub73 := hO68.lt
          obtain ⟨A74, c75, hv76, hcap77, hcap78⟩ := hO68.form; subst hv76
          refine rw_cons (op_pv (w0 rfl) rfl rfl (pv_assign (v := (.slice A74 (xs ++ ([((((k : Int) + 1) * 7) % 90) + ((k : Int) + 1)] : List Int)).length c75)) rfl rfl) ?_)
          refine rw_nil (hK56 _ _ ?_)
          refine hK40 _ _ ?_
          refine cw_region fun K79 hK80 => ?_
          refine rw_cons (op_pv (w0 rfl) rfl rfl (pv_move (v := (.int .i64 ((k : Int) + 1))) rfl rfl) ?_)
          refine rw_cons (op_pv (w0 rfl) rfl rfl (pv_add rfl rfl rfl (by omega) (by omega)) ?_)
          refine rw_cons (op_pv (w0 rfl) rfl rfl (pv_assign (v := (.int .i64 (((k : Int) + 1) + 1))) rfl rfl) ?_)
          refine rw_nil (hK80 _ _ ?_)
          replace hRd := hRd.up (M := N + (k + 1)) (by omega)
          have hO15 := hO68
          refine hK26 _ _ (k + 1, A74, c75, (xs ++ ([((((k : Int) + 1) * 7) % 90) + ((k : Int) + 1)] : List Int))) ⟨rfl, (iv (by omega)), rfl, rfl, trivial⟩ ⟨?_, hO15, hRd, hc⟩ ?_
          · exact ⟨by omega, by omega⟩
          · (first | omega | (simp only []; omega))
        · -- else
          replace h54 := of_decide_eq_false h54
          refine cw_skip ?_
          refine hK40 _ _ ?_
          refine cw_region fun K81 hK82 => ?_
          refine rw_cons (op_pv (w0 rfl) rfl rfl (pv_move (v := (.int .i64 ((k : Int) + 1))) rfl rfl) ?_)
          refine rw_cons (op_pv (w0 rfl) rfl rfl (pv_add rfl rfl rfl (by omega) (by omega)) ?_)
          refine rw_cons (op_pv (w0 rfl) rfl rfl (pv_assign (v := (.int .i64 (((k : Int) + 1) + 1))) rfl rfl) ?_)
          refine rw_nil (hK82 _ _ ?_)
          replace hRd := hRd.up (M := N + (k + 1)) (by omega)
          refine hK26 _ _ (k + 1, A3, c3, xs) ⟨rfl, (iv (by omega)), rfl, rfl, trivial⟩ ⟨?_, hO15, hRd, hc⟩ ?_
          · exact ⟨by omega, by omega⟩
          · (first | omega | (simp only []; omega))
      · -- no
        replace hb53 := of_decide_eq_false hb53
        refine rw_cons (op_pass (w1n1 rfl rfl rfl rfl) rfl rfl ?_)
        refine rw_cons (op_pass (w1n1 rfl rfl rfl rfl) rfl rfl ?_)
        refine rw_cons (op_pass (w1n1 rfl rfl rfl rfl) rfl rfl ?_)
        refine rw_cons (op_pv (w0 rfl) rfl rfl (pv_pickF (v := (.bool false)) rfl rfl rfl) ?_)
        refine rw_nil (hK44 _ _ ?_)
        refine hK42 _ _ ?_
        refine cw_cond rfl (fun h83 => ?_) (fun h83 => ?_)
        · -- then
          cases h83
        · -- else
          clear h83
          refine cw_skip ?_
          refine hK40 _ _ ?_
          refine cw_region fun K84 hK85 => ?_
          refine rw_cons (op_pv (w0 rfl) rfl rfl (pv_move (v := (.int .i64 ((k : Int) + 1))) rfl rfl) ?_)
          refine rw_cons (op_pv (w0 rfl) rfl rfl (pv_add rfl rfl rfl (by omega) (by omega)) ?_)
          refine rw_cons (op_pv (w0 rfl) rfl rfl (pv_assign (v := (.int .i64 (((k : Int) + 1) + 1))) rfl rfl) ?_)
          refine rw_nil (hK85 _ _ ?_)
          replace hRd := hRd.up (M := N + (k + 1)) (by omega)
          refine hK26 _ _ (k + 1, A3, c3, xs) ⟨rfl, (iv (by omega)), rfl, rfl, trivial⟩ ⟨?_, hO15, hRd, hc⟩ ?_
          · exact ⟨by omega, by omega⟩
          · (first | omega | (simp only []; omega))
    · -- else
      replace h38 := of_decide_eq_false h38
      refine cw_exit ?_
      refine hK19 _ _ ?_
      refine cw_seq fun K86 hK87 => ?_
      refine cw_seq fun K88 hK89 => ?_
      refine cw_region fun K90 hK91 => ?_
      refine rw_cons (op_pv (w0 rfl) rfl rfl (pv_assign (v := (.int .i64 1)) rfl rfl) ?_)
      refine rw_nil (hK91 _ _ ?_)
      refine hK89 _ _ ?_
      refine cw_block ?_
      refine cw_loop (σ := Nat) (fun m => [(5, (.int .i64 ((m : Int) + 1))), (0, (.pointer (some (⟨g, 0, none⟩)))), (3, (.slice A3 xs.length c3))]) (fun m W => (m ≤ xs.length) ∧ Own encI 1 W w.heap.size 3 (.slice A3 xs.length c3) xs ∧ Rd 56 W g (N + k) ∧ Ch [g] w W) (fun m => xs.length - m) 0 ?_ ?_ ?_
      · exact ⟨rfl, rfl, rfl, trivial⟩
      · refine ⟨Nat.zero_le _, hO15, hRd, hc⟩
      · rintro m J96 w92 ⟨hk2, hO15, hRd, hc⟩ K93 hK94
        have hsz98 := hc.size
        have hlt99 := hRd.lt
        have hub100 := hO15.lt
        refine cw_seq fun K101 hK102 => ?_
        refine cw_seq fun K103 hK104 => ?_
        refine cw_region fun K105 hK106 => ?_
        refine rw_cons (op_pv (w0 rfl) rfl rfl (pv_move (v := (.int .i64 ((m : Int) + 1))) rfl rfl) ?_)
        refine rw_cons (op_pv (w0 rfl) rfl rfl (pv_move (v := (.slice A3 xs.length c3)) rfl rfl) ?_)
        refine rw_cons (op_pv (w0 rfl) rfl rfl (pv_len Try.underlying24 rfl rfl) ?_)
        refine rw_cons (op_pv (w0 rfl) rfl rfl (pv_lss rfl rfl rfl) ?_)
        refine rw_nil (hK106 _ _ ?_)
        refine hK104 _ _ ?_
        refine cw_cond rfl (fun h107 => ?_) (fun h107 => ?_)
        · -- then
          replace h107 := of_decide_eq_true h107
          refine cw_skip ?_
          refine hK102 _ _ ?_
          refine cw_seq fun K108 hK109 => ?_
          refine cw_block ?_
          refine cw_seq fun K110 hK111 => ?_
          refine cw_drawn (fun u => Ch [] w92 u) (.free 0 (.free 1 (.free 2 (.free 3 (.free 4 (.free 5 (.free 6 (.free 7 (.free 8 (.free 9 (.done))))))))))) (by kernel_rfl) (by kernel_rfl) (Ch.refl _ _).drew fun K115 hK116 => ?_
          obtain ⟨w112, hw_, hch113, hsz114⟩ : ∃ w1 : World, w1 = w92.drew ∧ Ch [] w92 w1 ∧ w1.heap.size = w92.heap.size := ⟨_, rfl, (Ch.refl _ _).drew, rfl⟩
          rw [← hw_]; clear hw_
          have hr117 : Ch [] w92 w112 := hch113.sub (fun s hs => by cases hs)
          have hO15_r := hO15
          have hRd_r := hRd
          have hsz118 := hch113.size
          replace hO15 := hO15.ch0 hch113
          replace hRd := hRd.ch0 hch113
          replace hc := hc.step0 hch113
          refine tw_free rfl (w0 rfl) rfl rfl (fun u hu => (pv_move (v := (.slice A3 xs.length c3)) rfl rfl : PV _ _ _ _) u) ?_
          refine tw_free rfl (w0 rfl) rfl rfl (fun u hu => (pv_move (v := (.int .i64 ((m : Int) + 1))) rfl rfl : PV _ _ _ _) u) ?_
          refine tw_free rfl (w0 rfl) rfl rfl (fun u hu => (pv_sub rfl rfl rfl (by omega) (by omega) : PV _ _ _ _) u) ?_
          refine tw_free rfl (w0 rfl) rfl rfl (fun u hu => (pv_idx Try.underlying24 T3 rfl rfl rfl ((hO15.rs (fun _ => rfl)).some (k := (((m : Int) + 1) - 1).toNat) (by omega)) (by omega) (by omega) : PV _ _ _ _) u) ?_
          refine tw_free rfl (w0 rfl) rfl rfl (fun u hu => lv_load T3 rfl rfl (((hO15_r.ch0 hu).rs (fun _ => rfl)).cell0 (k := (((m : Int) + 1) - 1).toNat) (by omega) rfl)) ?_
          refine tw_free rfl (w0 rfl) rfl rfl (fun u hu => (pv_move (v := (.slice A3 xs.length c3)) rfl rfl : PV _ _ _ _) u) ?_
          refine tw_free rfl (w0 rfl) rfl rfl (fun u hu => (pv_move (v := (.int .i64 ((m : Int) + 1))) rfl rfl : PV _ _ _ _) u) ?_
          refine tw_free rfl (w0 rfl) rfl rfl (fun u hu => (pv_idx Try.underlying24 T3 rfl rfl rfl ((hO15.rs (fun _ => rfl)).some (k := (m + 1)) (by omega)) (by omega) (by omega) : PV _ _ _ _) u) ?_
          refine tw_free rfl (w0 rfl) rfl rfl (fun u hu => lv_load T3 rfl rfl (((hO15_r.ch0 hu).rs (fun _ => rfl)).cell0 (k := (m + 1)) (by omega) rfl)) ?_
          refine tw_free rfl (w0 rfl) rfl rfl (fun u hu => (pv_geq rfl rfl rfl : PV _ _ _ _) u) ?_
          clear hO15_r
          clear hRd_r
          refine tw_done (hK116 _ _ ?_)
          refine hK111 _ _ ?_
          refine cw_cond rfl (fun h119 => ?_) (fun h119 => ?_)
          · -- then
            replace h119 := of_decide_eq_true h119
            refine cw_seq fun K120 hK121 => ?_
            refine cw_region fun K122 hK123 => ?_
            refine rw_cons (op_bslice [(.int .i64 3), (.int .i64 5), (.int .i64 8), (.int .i64 20)] Try.underlying24 T3 (w0 rfl) rfl rfl rfl rfl rfl (by simp [Value.cells]) (by decide) ?_)
            intro g125 w124 hg128 hg129 hK127 hch126
            have hO130 : Own encI 1 w124 w112.heap.size 3 (.slice (some ⟨g125, 0, none⟩) 4 4) ([3, 5, 8, 20] : List Int) := Blk.own (xs := ([3, 5, 8, 20] : List Int)) hK127 (by omega) rfl (by decide) rfl
            have hsz131 := hch126.size
            replace hO15 := hO15.ch0 hch126
            replace hRd := hRd.ch0 hch126
            replace hc := hc.step0 hch126
            have hub132 := hO130.lt
            refine rw_cons (op_pv (w0 rfl) rfl rfl (pv_assign (v := (.slice (some ⟨g125, 0, none⟩) 4 4)) rfl rfl) ?_)
            refine rw_nil (hK123 _ _ ?_)
            refine hK121 _ _ ?_
            refine cw_ret ?_
            refine fin1 rfl ?_
            exact ⟨_, _, ([3, 5, 8, 20] : List Int), rfl, hO130.less (by omega), by first | omega | (simp; omega) | decide, hRd.up (by omega), hc⟩
          · -- else
            replace h119 := of_decide_eq_false h119
            refine cw_skip ?_
            refine hK109 _ _ ?_
            refine cw_region fun K133 hK134 => ?_
            refine rw_cons (op_pv (w0 rfl) rfl rfl (pv_move (v := (.int .i64 ((m : Int) + 1))) rfl rfl) ?_)
            refine rw_cons (op_pv (w0 rfl) rfl rfl (pv_add rfl rfl rfl (by omega) (by omega)) ?_)
            refine rw_cons (op_pv (w0 rfl) rfl rfl (pv_assign (v := (.int .i64 (((m : Int) + 1) + 1))) rfl rfl) ?_)
            refine rw_nil (hK134 _ _ ?_)
            refine hK94 _ _ (m + 1) ⟨(iv (by omega)), rfl, rfl, trivial⟩ ⟨?_, hO15, hRd, hc⟩ ?_
            · omega
            · (first | omega | (simp only []; omega))
        · -- else
          replace h107 := of_decide_eq_false h107
          refine cw_exit ?_
          refine hK87 _ _ ?_
          refine cw_seq fun K135 hK136 => ?_
          refine cw_seq fun K137 hK138 => ?_
          refine cw_region fun K139 hK140 => ?_
          refine rw_cons (op_pv (w0 rfl) rfl rfl (pv_move (v := (.slice A3 xs.length c3)) rfl rfl) ?_)
          refine rw_cons (op_pv (w0 rfl) rfl rfl (pv_len Try.underlying24 rfl rfl) ?_)
          refine rw_cons (op_pv (w0 rfl) rfl rfl (pv_gtr rfl rfl rfl) ?_)
          refine rw_cons (op_pv (w0 rfl) rfl rfl (pv_move (v := (.bool (decide (0 < (xs.length : Int))))) rfl rfl) ?_)
          refine rw_split 47 rfl (fun hb141 => ?_) (fun hb141 => ?_)
          · -- yes
            replace hb141 := of_decide_eq_true hb141
            refine rw_cons (op_pv (w1y rfl rfl rfl rfl) rfl rfl (pv_move (v := (.pointer (some (⟨g, 0, none⟩)))) rfl rfl) ?_)
            refine rw_cons (op_call (w1y rfl rfl rfl rfl) rfl rfl (rc_call C33 rfl rfl) (pick_ok _ _ _ _ hRd (by omega)) ?_)
            rintro _ w143 ⟨r142, rfl, hr144, hr145, hr146, hRd147, hch148⟩
            have hsz149 := hch148.size
            replace hO15 := hO15.ch hch148 (fun s hs => by first | (have := hO15.off s hs; simp; omega) | (have := hub100 s hs; simp; omega))
            replace hc := hc.step hch148 (fun s hs => .inl hs)
            clear hRd; have hRd := hRd147; clear hRd147
            refine rw_cons (op_pv (w1y rfl rfl rfl rfl) rfl rfl (pv_eql rfl rfl rfl) ?_)
            refine rw_cons (op_pv (w0 rfl) rfl rfl (pv_pickT (v := (.bool (decide ((r142 : Int) = 0)))) rfl rfl rfl) ?_)
            refine rw_nil (hK140 _ _ ?_)
            refine hK138 _ _ ?_
            refine cw_cond rfl (fun h150 => ?_) (fun h150 => ?_)
            · -- then
              replace h150 := of_decide_eq_true h150
              refine cw_drawn (fun u => Ch (g :: obl (.slice A3 xs.length c3)) w143 u) (.free 0 (.free 1 (.free 2 (.free 3 (.free 4 (.free 5 (.free 8 (.two 6 true (.two 7 true (.one 9 true (.free 10 (.one 11 true (.free 12 (.one 13 false (.done)))))) 9 true (.one 7 true (.free 10 (.one 11 true (.free 12 (.one 13 false (.done))))))) 9 true (.one 6 true (.one 7 true (.free 10 (.one 11 true (.free 12 (.one 13 false (.done))))))))))))))) (by kernel_rfl) (by kernel_rfl) (Ch.refl _ _).drew fun K154 hK155 => ?_
              obtain ⟨w151, hw_, hch152, hsz153⟩ : ∃ w1 : World, w1 = w143.drew ∧ Ch [] w143 w1 ∧ w1.heap.size = w143.heap.size := ⟨_, rfl, (Ch.refl _ _).drew, rfl⟩
              rw [← hw_]; clear hw_
              have hr156 : Ch (g :: obl (.slice A3 xs.length c3)) w143 w151 := hch152.sub (fun s hs => by cases hs)
              have hO15_r := hO15
              have hRd_r := hRd
              have hsz157 := hch152.size
              replace hO15 := hO15.ch0 hch152
              replace hRd := hRd.ch0 hch152
              replace hc := hc.step0 hch152
              refine tw_free rfl (w0 rfl) rfl rfl (fun u hu => (pv_move (v := (.slice A3 xs.length c3)) rfl rfl : PV _ _ _ _) u) ?_
              refine tw_free rfl (w0 rfl) rfl rfl (fun u hu => (pv_move (v := (.slice A3 xs.length c3)) rfl rfl : PV _ _ _ _) u) ?_
              refine tw_free rfl (w0 rfl) rfl rfl (fun u hu => (pv_len Try.underlying24 rfl rfl : PV _ _ _ _) u) ?_
              refine tw_free rfl (w0 rfl) rfl rfl (fun u hu => (pv_sub rfl rfl rfl (by omega) (by omega) : PV _ _ _ _) u) ?_
              refine tw_free rfl (w0 rfl) rfl rfl (fun u hu => (pv_move (v := (.slice A3 xs.length c3)) rfl rfl : PV _ _ _ _) u) ?_
              refine tw_free rfl (w0 rfl) rfl rfl (fun u hu => (pv_idx Try.underlying24 T3 rfl rfl rfl ((hO15.rs (fun _ => rfl)).some (k := 0) (by omega)) (by omega) (by omega) : PV _ _ _ _) u) ?_
              refine tw_free rfl (w0 rfl) rfl rfl (fun u hu => (pv_move (v := (.pointer (some (⟨g, 0, none⟩)))) rfl rfl : PV _ _ _ _) u) ?_
              refine tw_two rfl rfl ?_ ?_
              · -- first 6
                refine  (op_lv (w0 rfl) rfl rfl (lv_load T3 rfl rfl ((hO15.rs (fun _ => rfl)).cell0 (k := 0) (by omega) rfl)) ?_)
                refine ⟨fun _ => hr156, ?_⟩
                refine tw_two rfl rfl ?_ ?_
                · -- first 7
                  refine  (op_bslice [(.int .i64 0), (.int .i64 100), (.int .i64 (el xs 0))] Try.underlying24 T3 (w0 rfl) rfl rfl rfl rfl rfl (by simp [Value.cells]) (by decide) ?_)
                  intro g159 w158 hg162 hg163 hK161 hch160
                  have hO164 : Own encI 1 w158 w151.heap.size 3 (.slice (some ⟨g159, 0, none⟩) 3 3) ([0, 100, (el xs 0)] : List Int) := Blk.own (xs := ([0, 100, (el xs 0)] : List Int)) hK161 (by omega) rfl (by decide) rfl
                  have hsz165 := hch160.size
                  replace hO15 := hO15.ch0 hch160
                  replace hRd := hRd.ch0 hch160
                  replace hc := hc.step0 hch160
                  replace hr156 := hr156.step0 hch160
                  have hub166 := hO164.lt
                  refine ⟨fun _ => hr156, ?_⟩
                  refine tw_one rfl (op_call (w0 rfl) rfl rfl (rc_call C33 rfl rfl) (pick_ok _ _ _ _ hRd (by omega)) ?_)
                  rintro _ w168 ⟨r167, rfl, hr169, hr170, hr171, hRd172, hch173⟩
                  have hsz174 := hch173.size
                  replace hO15 := hO15.ch hch173 (fun s hs => by first | (have := hO15.off s hs; simp; omega) | (have := hub100 s hs; simp; omega))
                  replace hO164 := hO164.ch hch173 (fun s hs => by first | (have := hO164.off s hs; simp; omega) | (have := hub166 s hs; simp; omega))
                  replace hc := hc.step hch173 (fun s hs => .inl hs)
                  replace hr156 := hr156.step hch173 (fun s hs => .inl (by simp at hs; simp [hs]))
                  clear hRd; have hRd := hRd172; clear hRd172
                  refine ⟨fun _ => hr156, ?_⟩
                  refine tw_free rfl (w0 rfl) rfl rfl (fun u hu => (pv_idx Try.underlying24 T3 rfl rfl rfl ((hO164.rs (fun _ => rfl)).some (k := (r167).toNat) (by omega)) (by omega) (by omega) : PV _ _ _ _) u) ?_
                  refine tw_one rfl (op_lv (w0 rfl) rfl rfl (lv_load T3 rfl rfl ((hO164.rs (fun _ => rfl)).cell0 (k := (r167).toNat) (by omega) rfl)) ?_)
                  refine ⟨fun _ => hr156, ?_⟩
                  refine tw_free rfl (w0 rfl) rfl rfl (fun u hu => (pv_idx Try.underlying24 T3 rfl rfl rfl ((hO15.rs (fun _ => rfl)).some (k := ((xs.length : Int) - 1).toNat) (by omega)) (by omega) (by omega) : PV _ _ _ _) u) ?_
                  refine tw_one rfl (op_store_ownA (k := ((xs.length : Int) - 1).toNat) (off := 0) (el ([0, 100, (el xs 0)] : List Int) (r167).toNat) T3 hO15 (fun _ => rfl) (w0 rfl) rfl rfl rfl rfl rfl (one_all rfl) (by omega) (Nat.le_of_ble_eq_true rfl) rfl ?_)
                  rintro w175 hO177 hch176
                  have hsz178 := hch176.size
                  replace hRd := hRd.ch hch176 (hO15.off.le (by omega))
                  replace hO164 := hO164.ch hch176 (fun s hs hs2 => by first | (have h1 := hO164.off s hs; have h2 := hub100 s hs2; omega) | (have h1 := hub166 s hs; have h2 := hO15.off s hs2; omega) | (have h2 := hub100 s hs2; simp [obl, Value.ownBlock] at hs; omega) | (have h1 := hub166 s hs; simp [obl, Value.ownBlock] at hs2; omega))
                  replace hc := hc.step hch176 (fun s hs => .inr (hO15.off s hs))
                  clear hr156
                  clear hO15; have hO15 := hO177; clear hO177
                  refine ⟨fun h => (by cases h), ?_⟩
                  clear hO15_r
                  clear hRd_r
                  refine tw_done (hK155 _ _ ?_)
                  refine hK136 _ _ ?_
                  refine cw_seq fun K179 hK180 => ?_
                  refine cw_region fun K181 hK182 => ?_
                  refine rw_cons (op_pv (w0 rfl) rfl rfl (pv_move (v := (.slice A3 xs.length c3)) rfl rfl) ?_)
                  refine rw_cons (op_pv (w0 rfl) rfl rfl (pv_assign (v := (.slice A3 xs.length c3)) rfl rfl) ?_)
                  refine rw_nil (hK182 _ _ ?_)
                  refine hK180 _ _ ?_
                  refine cw_ret ?_
                  refine fin1 rfl ?_
                  have hsl : (xs.set ((xs.length : Int) - 1).toNat (el ([0, 100, (el xs 0)] : List Int) (r167).toNat)).length = xs.length := List.length_set ..
                  exact ⟨A3, c3, (xs.set ((xs.length : Int) - 1).toNat (el ([0, 100, (el xs 0)] : List Int) (r167).toNat)), by rw [hsl]; rfl, by rw [hsl]; exact hO15.less (by omega), by omega, hRd.up (by omega), hc⟩
                · -- first 9
                  refine  (op_call (w0 rfl) rfl rfl (rc_call C33 rfl rfl) (pick_ok _ _ _ _ hRd (by omega)) ?_)
                  rintro _ w184 ⟨r183, rfl, hr185, hr186, hr187, hRd188, hch189⟩
                  have hsz190 := hch189.size
                  replace hO15 := hO15.ch hch189 (fun s hs => by first | (have := hO15.off s hs; simp; omega) | (have := hub100 s hs; simp; omega))
                  replace hc := hc.step hch189 (fun s hs => .inl hs)
                  replace hr156 := hr156.step hch189 (fun s hs => .inl (by simp at hs; simp [hs]))
                  clear hRd; have hRd := hRd188; clear hRd188
                  refine ⟨fun _ => hr156, ?_⟩
                  refine tw_one rfl (op_bslice [(.int .i64 0), (.int .i64 100), (.int .i64 (el xs 0))] Try.underlying24 T3 (w0 rfl) rfl rfl rfl rfl rfl (by simp [Value.cells]) (by decide) ?_)
                  intro g192 w191 hg195 hg196 hK194 hch193
                  have hO197 : Own encI 1 w191 w184.heap.size 3 (.slice (some ⟨g192, 0, none⟩) 3 3) ([0, 100, (el xs 0)] : List Int) := Blk.own (xs := ([0, 100, (el xs 0)] : List Int)) hK194 (by omega) rfl (by decide) rfl
                  have hsz198 := hch193.size
                  replace hO15 := hO15.ch0 hch193
                  replace hRd := hRd.ch0 hch193
                  replace hc := hc.step0 hch193
                  replace hr156 := hr156.step0 hch193
                  have hub199 := hO197.lt
                  refine ⟨fun _ => hr156, ?_⟩
                  refine tw_free rfl (w0 rfl) rfl rfl (fun u hu => (pv_idx Try.underlying24 T3 rfl rfl rfl ((hO197.rs (fun _ => rfl)).some (k := (r183).toNat) (by omega)) (by omega) (by omega) : PV _ _ _ _) u) ?_
                  refine tw_one rfl (op_lv (w0 rfl) rfl rfl (lv_load T3 rfl rfl ((hO197.rs (fun _ => rfl)).cell0 (k := (r183).toNat) (by omega) rfl)) ?_)
                  refine ⟨fun _ => hr156, ?_⟩
                  refine tw_free rfl (w0 rfl) rfl rfl (fun u hu => (pv_idx Try.underlying24 T3 rfl rfl rfl ((hO15.rs (fun _ => rfl)).some (k := ((xs.length : Int) - 1).toNat) (by omega)) (by omega) (by omega) : PV _ _ _ _) u) ?_
                  refine tw_one rfl (op_store_ownA (k := ((xs.length : Int) - 1).toNat) (off := 0) (el ([0, 100, (el xs 0)] : List Int) (r183).toNat) T3 hO15 (fun _ => rfl) (w0 rfl) rfl rfl rfl rfl rfl (one_all rfl) (by omega) (Nat.le_of_ble_eq_true rfl) rfl ?_)
                  rintro w200 hO202 hch201
                  have hsz203 := hch201.size
                  replace hRd := hRd.ch hch201 (hO15.off.le (by omega))
                  replace hO197 := hO197.ch hch201 (fun s hs hs2 => by first | (have h1 := hO197.off s hs; have h2 := hub100 s hs2; omega) | (have h1 := hub199 s hs; have h2 := hO15.off s hs2; omega) | (have h2 := hub100 s hs2; simp [obl, Value.ownBlock] at hs; omega) | (have h1 := hub199 s hs; simp [obl, Value.ownBlock] at hs2; omega))
                  replace hc := hc.step hch201 (fun s hs => .inr (hO15.off s hs))
                  clear hr156
                  clear hO15; have hO15 := hO202; clear hO202
                  refine ⟨fun h => (by cases h), ?_⟩
                  clear hO15_r
                  clear hRd_r
                  refine tw_done (hK155 _ _ ?_)
                  refine hK136 _ _ ?_
                  refine cw_seq fun K204 hK205 => ?_
                  refine cw_region fun K206 hK207 => ?_
                  refine rw_cons (op_pv (w0 rfl) rfl rfl (pv_move (v := (.slice A3 xs.length c3)) rfl rfl) ?_)
                  refine rw_cons (op_pv (w0 rfl) rfl rfl (pv_assign (v := (.slice A3 xs.length c3)) rfl rfl) ?_)
                  refine rw_nil (hK207 _ _ ?_)
                  refine hK205 _ _ ?_
                  refine cw_ret ?_
                  refine fin1 rfl ?_
                  have hsl : (xs.set ((xs.length : Int) - 1).toNat (el ([0, 100, (el xs 0)] : List Int) (r183).toNat)).length = xs.length := List.length_set ..
                  exact ⟨A3, c3, (xs.set ((xs.length : Int) - 1).toNat (el ([0, 100, (el xs 0)] : List Int) (r183).toNat)), by rw [hsl]; rfl, by rw [hsl]; exact hO15.less (by omega), by omega, hRd.up (by omega), hc⟩
              · -- first 9
                refine  (op_call (w0 rfl) rfl rfl (rc_call C33 rfl rfl) (pick_ok _ _ _ _ hRd (by omega)) ?_)
                rintro _ w209 ⟨r208, rfl, hr210, hr211, hr212, hRd213, hch214⟩
                have hsz215 := hch214.size
                replace hO15 := hO15.ch hch214 (fun s hs => by first | (have := hO15.off s hs; simp; omega) | (have := hub100 s hs; simp; omega))
                replace hc := hc.step hch214 (fun s hs => .inl hs)
                replace hr156 := hr156.step hch214 (fun s hs => .inl (by simp at hs; simp [hs]))
                clear hRd; have hRd := hRd213; clear hRd213
                refine ⟨fun _ => hr156, ?_⟩
                refine tw_one rfl (op_lv (w0 rfl) rfl rfl (lv_load T3 rfl rfl ((hO15.rs (fun _ => rfl)).cell0 (k := 0) (by omega) rfl)) ?_)
                refine ⟨fun _ => hr156, ?_⟩
                refine tw_one rfl (op_bslice [(.int .i64 0), (.int .i64 100), (.int .i64 (el xs 0))] Try.underlying24 T3 (w0 rfl) rfl rfl rfl rfl rfl (by simp [Value.cells]) (by decide) ?_)
                intro g217 w216 hg220 hg221 hK219 hch218
                have hO222 : Own encI 1 w216 w209.heap.size 3 (.slice (some ⟨g217, 0, none⟩) 3 3) ([0, 100, (el xs 0)] : List Int) := Blk.own (xs := ([0, 100, (el xs 0)] : List Int)) hK219 (by omega) rfl (by decide) rfl
                have hsz223 := hch218.size
                replace hO15 := hO15.ch0 hch218
                replace hRd := hRd.ch0 hch218
                replace hc := hc.step0 hch218
                replace hr156 := hr156.step0 hch218
                have hub224 := hO222.lt
                refine ⟨fun _ => hr156, ?_⟩
                refine tw_free rfl (w0 rfl) rfl rfl (fun u hu => (pv_idx Try.underlying24 T3 rfl rfl rfl ((hO222.rs (fun _ => rfl)).some (k := (r208).toNat) (by omega)) (by omega) (by omega) : PV _ _ _ _) u) ?_
                refine tw_one rfl (op_lv (w0 rfl) rfl rfl (lv_load T3 rfl rfl ((hO222.rs (fun _ => rfl)).cell0 (k := (r208).toNat) (by omega) rfl)) ?_)
                refine ⟨fun _ => hr156, ?_⟩
                refine tw_free rfl (w0 rfl) rfl rfl (fun u hu => (pv_idx Try.underlying24 T3 rfl rfl rfl ((hO15.rs (fun _ => rfl)).some (k := ((xs.length : Int) - 1).toNat) (by omega)) (by omega) (by omega) : PV _ _ _ _) u) ?_
                refine tw_one rfl (op_store_ownA (k := ((xs.length : Int) - 1).toNat) (off := 0) (el ([0, 100, (el xs 0)] : List Int) (r208).toNat) T3 hO15 (fun _ => rfl) (w0 rfl) rfl rfl rfl rfl rfl (one_all rfl) (by omega) (Nat.le_of_ble_eq_true rfl) rfl ?_)
                rintro w225 hO227 hch226
                have hsz228 := hch226.size
                replace hRd := hRd.ch hch226 (hO15.off.le (by omega))
                replace hO222 := hO222.ch hch226 (fun s hs hs2 => by first | (have h1 := hO222.off s hs; have h2 := hub100 s hs2; omega) | (have h1 := hub224 s hs; have h2 := hO15.off s hs2; omega) | (have h2 := hub100 s hs2; simp [obl, Value.ownBlock] at hs; omega) | (have h1 := hub224 s hs; simp [obl, Value.ownBlock] at hs2; omega))
                replace hc := hc.step hch226 (fun s hs => .inr (hO15.off s hs))
                clear hr156
                clear hO15; have hO15 := hO227; clear hO227
                refine ⟨fun h => (by cases h), ?_⟩
                clear hO15_r
                clear hRd_r
                refine tw_done (hK155 _ _ ?_)
                refine hK136 _ _ ?_
                refine cw_seq fun K229 hK230 => ?_
                refine cw_region fun K231 hK232 => ?_
                refine rw_cons (op_pv (w0 rfl) rfl rfl (pv_move (v := (.slice A3 xs.length c3)) rfl rfl) ?_)
                refine rw_cons (op_pv (w0 rfl) rfl rfl (pv_assign (v := (.slice A3 xs.length c3)) rfl rfl) ?_)
                refine rw_nil (hK232 _ _ ?_)
                refine hK230 _ _ ?_
                refine cw_ret ?_
                refine fin1 rfl ?_
                have hsl : (xs.set ((xs.length : Int) - 1).toNat (el ([0, 100, (el xs 0)] : List Int) (r208).toNat)).length = xs.length := List.length_set ..
                exact ⟨A3, c3, (xs.set ((xs.length : Int) - 1).toNat (el ([0, 100, (el xs 0)] : List Int) (r208).toNat)), by rw [hsl]; rfl, by rw [hsl]; exact hO15.less (by omega), by omega, hRd.up (by omega), hc⟩
            · -- else
              replace h150 := of_decide_eq_false h150
              refine cw_skip ?_
              refine hK136 _ _ ?_
              refine cw_seq fun K233 hK234 => ?_
              refine cw_region fun K235 hK236 => ?_
              refine rw_cons (op_pv (w0 rfl) rfl rfl (pv_move (v := (.slice A3 xs.length c3)) rfl rfl) ?_)
              refine rw_cons (op_pv (w0 rfl) rfl rfl (pv_assign (v := (.slice A3 xs.length c3)) rfl rfl) ?_)
              refine rw_nil (hK236 _ _ ?_)
              refine hK234 _ _ ?_
              refine cw_ret ?_
              refine fin1 rfl ?_
              exact ⟨_, _, xs, rfl, hO15.less (by omega), by first | omega | (simp; omega) | decide, hRd.up (by omega), hc⟩
          · -- no
            replace hb141 := of_decide_eq_false hb141
            refine rw_cons (op_pass (w1n1 rfl rfl rfl rfl) rfl rfl ?_)
            refine rw_cons (op_pass (w1n1 rfl rfl rfl rfl) rfl rfl ?_)
            refine rw_cons (op_pass (w1n1 rfl rfl rfl rfl) rfl rfl ?_)
            refine rw_cons (op_pv (w0 rfl) rfl rfl (pv_pickF (v := (.bool false)) rfl rfl rfl) ?_)
            refine rw_nil (hK140 _ _ ?_)
            refine hK138 _ _ ?_
            refine cw_cond rfl (fun h237 => ?_) (fun h237 => ?_)
            · -- then
              cases h237
            · -- else
              clear h237
              refine cw_skip ?_
              refine hK136 _ _ ?_
              refine cw_seq fun K238 hK239 => ?_
              refine cw_region fun K240 hK241 => ?_
              refine rw_cons (op_pv (w0 rfl) rfl rfl (pv_move (v := (.slice A3 xs.length c3)) rfl rfl) ?_)
              refine rw_cons (op_pv (w0 rfl) rfl rfl (pv_assign (v := (.slice A3 xs.length c3)) rfl rfl) ?_)
              refine rw_nil (hK241 _ _ ?_)
              refine hK239 _ _ ?_
              refine cw_ret ?_
              refine fin1 rfl ?_
              exact ⟨_, _, xs, rfl, hO15.less (by omega), by first | omega | (simp; omega) | decide, hRd.up (by omega), hc⟩
end Go.Proofs.Ytielahdnccocdaa

/-
  The walk of spec.l92Servers, written by program: each line names the law of one operation. Conditions: those of the theorem.
-/
import Derived.Test.YtielahdnccocdaaProg
import Derived.Test.YtielahdnccocdaaPlaces
import Derived.Test.YtielahdnccocdaaFspecl6Rdpick
import Derived.KernelRfl
namespace Go.Proofs.Ytielahdnccocdaa
open Go Go.RowKit
set_option linter.unusedVariables false
set_option linter.unusedSimpArgs false
namespace l92Servers_okF
theorem T3 : TI Try.prog 3 false (.int .i64 0) 1 8 := TI.mk' Try.underlying3 rfl (by kernel_rfl)
theorem C33 : Callable Try.prog 33 := ⟨_, Try.func33, by kernel_rfl, by kernel_rfl⟩
end l92Servers_okF
open l92Servers_okF in
set_option maxHeartbeats 4000000 in
theorem l92Servers_ok (g : Nat) (N : Nat) (w : World) (hRd : Rd 56 w g N) (hN : N ≤ 900000) :
    Fn Try.prog 34 [(.pointer (some (⟨g, 0, none⟩)))] w fun v w' => ∃ A c xs, v = .slice A xs.length c ∧ Own encI 1 w' w.heap.size 3 (.slice A xs.length c) xs ∧ xs.length ≤ 8 ∧ Rd 56 w' g (N + 14) ∧ Ch [g] w w' := by
  have hg0 := hRd.lt
  refine fn_of (n := 66) Try.func34 rfl rfl rfl rfl ?_
  have hc : Ch [g] w w := Ch.refl _ _
  refine cw_seq fun K1 hK2 => ?_
  refine cw_region fun K3 hK4 => ?_
  refine rw_cons (op_pv (w0 rfl) rfl rfl (pv_assign (v := (.slice none 0 0)) rfl rfl) ?_)
  refine rw_nil (hK4 _ _ ?_)
  refine hK2 _ _ ?_
  refine cw_seq fun K5 hK6 => ?_
  refine cw_region fun K7 hK8 => ?_
  refine rw_cons (op_bslice [] Try.underlying24 T3 (w0 rfl) rfl rfl rfl rfl rfl (by simp [Value.cells]) (by decide) ?_)
  intro g10 w9 hg13 hg14 hK12 hch11
  have hO15 : Own encI 1 w9 w.heap.size 3 (.slice ((some ⟨g10, 0, none⟩)) 0 0) ([] : List Int) := Blk.own (xs := ([] : List Int)) hK12 (by omega) rfl (by decide) rfl
  have hsz16 := hch11.size
  replace hRd := hRd.ch0 hch11
  replace hc := hc.step0 hch11
  have hub17 := hO15.lt
  refine rw_cons (op_pv (w0 rfl) rfl rfl (pv_assign (v := (.slice ((some ⟨g10, 0, none⟩)) 0 0)) rfl rfl) ?_)
  refine rw_nil (hK8 _ _ ?_)
  refine hK6 _ _ ?_
  refine cw_seq fun K18 hK19 => ?_
  refine cw_seq fun K20 hK21 => ?_
  refine cw_region fun K22 hK23 => ?_
  refine rw_cons (op_pv (w0 rfl) rfl rfl (pv_assign (v := (.int .i64 1)) rfl rfl) ?_)
  refine rw_nil (hK23 _ _ ?_)
  refine hK21 _ _ ?_
  refine cw_block ?_
  refine cw_loop (σ := Nat × (Option Addr) × Nat × (List Int)) (fun ⟨k, A3, c3, xs⟩ => [(3, (.slice A3 xs.length c3)), (4, (.int .i64 ((k : Int) + 1))), (0, (.pointer (some (⟨g, 0, none⟩)))), (2, (.slice none 0 0))]) (fun ⟨k, A3, c3, xs⟩ W => (k ≤ 11 ∧ xs.length ≤ 8) ∧ Own encI 1 W w.heap.size 3 (.slice A3 xs.length c3) xs ∧ Rd 56 W g (N + k) ∧ Ch [g] w W) (fun ⟨k, A3, c3, xs⟩ => 11 - k) (0, (some ⟨g10, 0, none⟩), 0, ([] : List Int)) ?_ ?_ ?_
  · exact ⟨rfl, rfl, rfl, rfl, trivial⟩
  · refine ⟨⟨by omega, by simp⟩, hO15, hRd, hc⟩
  · rintro ⟨k, A3, c3, xs⟩ J28 w24 ⟨⟨hk, hxl⟩, hO15, hRd, hc⟩ K25 hK26
    have hsz30 := hc.size
    have hlt31 := hRd.lt
    have hub17 := hO15.lt
    have hg1 := hRd.lt
    refine cw_seq fun K32 hK33 => ?_
    refine cw_seq fun K34 hK35 => ?_
    refine cw_region fun K36 hK37 => ?_
    refine rw_cons (op_pv (w0 rfl) rfl rfl (pv_move (v := (.int .i64 ((k : Int) + 1))) rfl rfl) ?_)
    refine rw_cons (op_pv (w0 rfl) rfl rfl (pv_lss rfl rfl rfl) ?_)
    refine rw_nil (hK37 _ _ ?_)
    refine hK35 _ _ ?_
    refine cw_cond rfl (fun h38 => ?_) (fun h38 => ?_)
    · -- then
      replace h38 := of_decide_eq_true h38
      refine cw_skip ?_
      refine hK33 _ _ ?_
      refine cw_seq fun K39 hK40 => ?_
      refine cw_block ?_
      refine cw_seq fun K41 hK42 => ?_
      refine cw_region fun K43 hK44 => ?_
      refine rw_cons (op_pv (w0 rfl) rfl rfl (pv_move (v := (.pointer (some (⟨g, 0, none⟩)))) rfl rfl) ?_)
      refine rw_cons (op_call (w0 rfl) rfl rfl (rc_call C33 rfl rfl) (pick_ok _ _ _ _ hRd (by omega)) ?_)
      rintro _ w46 ⟨r45, rfl, hr47, hr48, hr49, hRd50, hch51⟩
      have hsz52 := hch51.size
      replace hO15 := hO15.ch hch51 (fun s hs => by have := hO15.off s hs; simp; omega)
      replace hc := hc.step hch51 (fun s hs => .inl hs)
      clear hRd; have hRd := hRd50; clear hRd50
      refine rw_cons (op_pv (w0 rfl) rfl rfl (pv_eql rfl rfl rfl) ?_)
      refine rw_cons (op_pv (w0 rfl) rfl rfl (pv_move (v := (.bool (decide ((r45 : Int) = 0)))) rfl rfl) ?_)
      refine rw_split 14 rfl (fun hb53 => ?_) (fun hb53 => ?_)
      · -- yes
        replace hb53 := of_decide_eq_true hb53
        refine rw_cons (op_pv (w1y rfl rfl rfl rfl) rfl rfl (pv_move (v := (.slice A3 xs.length c3)) rfl rfl) ?_)
        refine rw_cons (op_pv (w1y rfl rfl rfl rfl) rfl rfl (pv_len Try.underlying24 rfl rfl) ?_)
        refine rw_cons (op_pv (w1y rfl rfl rfl rfl) rfl rfl (pv_lss rfl rfl rfl) ?_)
        refine rw_cons (op_pv (w0 rfl) rfl rfl (pv_pickT (v := (.bool (decide (((xs.length : Int)) < 8)))) rfl rfl rfl) ?_)
        refine rw_nil (hK44 _ _ ?_)
        refine hK42 _ _ ?_
        refine cw_cond rfl (fun h54 => ?_) (fun h54 => ?_)
        · -- then
          replace h54 := of_decide_eq_true h54
          refine cw_region fun K55 hK56 => ?_
          refine rw_cons (op_pv (w0 rfl) rfl rfl (pv_move (v := (.slice A3 xs.length c3)) rfl rfl) ?_)
          refine rw_cons (op_pv (w0 rfl) rfl rfl (pv_move (v := (.int .i64 ((k : Int) + 1))) rfl rfl) ?_)
          refine rw_cons (op_pv (w0 rfl) rfl rfl (pv_mul rfl rfl rfl (by omega) (by omega)) ?_)
          refine rw_cons (op_pv (w0 rfl) rfl rfl (pv_rem rfl rfl rfl (by omega) (by omega)) ?_)
          refine rw_cons (op_pv (w0 rfl) rfl rfl (pv_move (v := (.int .i64 ((k : Int) + 1))) rfl rfl) ?_)
          refine rw_cons (op_pv (w0 rfl) rfl rfl (pv_add rfl rfl rfl (by omega) (by omega)) ?_)
          refine rw_cons (op_bslice [(.int .i64 (((((k : Int) + 1) * 7) % 90) + ((k : Int) + 1)))] Try.underlying24 T3 (w0 rfl) rfl rfl rfl rfl rfl (by simp [Value.cells]) (by decide) ?_)
          intro g58 w57 hg61 hg62 hK60 hch59
          have hO63 : Own encI 1 w57 w.heap.size 3 (.slice ((some ⟨g58, 0, none⟩)) 1 1) ([((((k : Int) + 1) * 7) % 90) + ((k : Int) + 1)] : List Int) := Blk.own (xs := ([((((k : Int) + 1) * 7) % 90) + ((k : Int) + 1)] : List Int)) hK60 (by omega) rfl (by decide) rfl
          have hsz64 := hch59.size
          replace hO15 := hO15.ch0 hch59
          replace hRd := hRd.ch0 hch59
          replace hc := hc.step0 hch59
          have hub65 := hO63.lt
          refine rw_cons (op_append Try.underlying24 T3 (fun _ => rfl) rfl (by decide) (fun _ => one_all rfl) (w0 rfl) rfl rfl rfl rfl rfl hO15 (hO63.rs (fun _ => rfl)) (by unfold maxLen; first | omega | (simp; omega)) (by first | omega | (simp; omega)) (by omega) ?_)
          rintro v66 w67 hO68 hch69 hs70
          have hl71 : (xs ++ ([((((k : Int) + 1) * 7) % 90) + ((k : Int) + 1)] : List Int)).length = xs.length + 1 := by first | (have hl0 := (hO63.rs (fun _ => rfl)).len; simp only [List.length_append, List.length_cons, List.length_nil] at hl0 ⊢; omega) | simp | rfl
          clear hO63
          have hsz72 := hch69.size
          replace hRd := hRd.ch hch69 (hO15.off.le (by omega))
          replace hc := hc.step hch69 (fun s hs => .inr (hO15.off s hs))
          have hub73 := hO68.lt
          obtain ⟨A74, c75, hv76, hcap77, hcap78⟩ := hO68.form; subst hv76
          refine rw_cons (op_pv (w0 rfl) rfl rfl (pv_assign (v := (.slice A74 ((xs ++ ([((((k : Int) + 1) * 7) % 90) + ((k : Int) + 1)] : List Int)).length) c75)) rfl rfl) ?_)
          refine rw_nil (hK56 _ _ ?_)
          refine hK40 _ _ ?_
          refine cw_region fun K79 hK80 => ?_
          refine rw_cons (op_pv (w0 rfl) rfl rfl (pv_move (v := (.int .i64 ((k : Int) + 1))) rfl rfl) ?_)
          refine rw_cons (op_pv (w0 rfl) rfl rfl (pv_add rfl rfl rfl (by omega) (by omega)) ?_)
          refine rw_cons (op_pv (w0 rfl) rfl rfl (pv_assign (v := (.int .i64 (((k : Int) + 1) + 1))) rfl rfl) ?_)
          refine rw_nil (hK80 _ _ ?_)
          replace hRd := hRd.up (M := N + (k + 1)) (by omega)
          have hO15 := hO68
          refine hK26 _ _ (k + 1, A74, c75, (xs ++ ([((((k : Int) + 1) * 7) % 90) + ((k : Int) + 1)] : List Int))) ⟨rfl, (iv (by omega)), rfl, rfl, trivial⟩ ⟨?_, hO15, hRd, hc⟩ ?_
          · exact ⟨by omega, by omega⟩
          · (first | omega | (simp only []; omega))
        · -- else
          replace h54 := of_decide_eq_false h54
          refine cw_skip ?_
          refine hK40 _ _ ?_
          refine cw_region fun K81 hK82 => ?_
          refine rw_cons (op_pv (w0 rfl) rfl rfl (pv_move (v := (.int .i64 ((k : Int) + 1))) rfl rfl) ?_)
          refine rw_cons (op_pv (w0 rfl) rfl rfl (pv_add rfl rfl rfl (by omega) (by omega)) ?_)
          refine rw_cons (op_pv (w0 rfl) rfl rfl (pv_assign (v := (.int .i64 (((k : Int) + 1) + 1))) rfl rfl) ?_)
          refine rw_nil (hK82 _ _ ?_)
          replace hRd := hRd.up (M := N + (k + 1)) (by omega)
          refine hK26 _ _ (k + 1, A3, c3, xs) ⟨rfl, (iv (by omega)), rfl, rfl, trivial⟩ ⟨?_, hO15, hRd, hc⟩ ?_
          · exact ⟨by omega, by omega⟩
          · (first | omega | (simp only []; omega))
      · -- no
        replace hb53 := of_decide_eq_false hb53
        refine rw_cons (op_pass (w1n1 rfl rfl rfl rfl) rfl rfl ?_)
        refine rw_cons (op_pass (w1n1 rfl rfl rfl rfl) rfl rfl ?_)
        refine rw_cons (op_pass (w1n1 rfl rfl rfl rfl) rfl rfl ?_)
        refine rw_cons (op_pv (w0 rfl) rfl rfl (pv_pickF (v := (.bool false)) rfl rfl rfl) ?_)
        refine rw_nil (hK44 _ _ ?_)
        refine hK42 _ _ ?_
        refine cw_cond rfl (fun h83 => ?_) (fun h83 => ?_)
        · -- then
          cases h83
        · -- else
          clear h83
          refine cw_skip ?_
          refine hK40 _ _ ?_
          refine cw_region fun K84 hK85 => ?_
          refine rw_cons (op_pv (w0 rfl) rfl rfl (pv_move (v := (.int .i64 ((k : Int) + 1))) rfl rfl) ?_)
          refine rw_cons (op_pv (w0 rfl) rfl rfl (pv_add rfl rfl rfl (by omega) (by omega)) ?_)
          refine rw_cons (op_pv (w0 rfl) rfl rfl (pv_assign (v := (.int .i64 (((k : Int) + 1) + 1))) rfl rfl) ?_)
          refine rw_nil (hK85 _ _ ?_)
          replace hRd := hRd.up (M := N + (k + 1)) (by omega)
          refine hK26 _ _ (k + 1, A3, c3, xs) ⟨rfl, (iv (by omega)), rfl, rfl, trivial⟩ ⟨?_, hO15, hRd, hc⟩ ?_
          · exact ⟨by omega, by omega⟩
          · (first | omega | (simp only []; omega))
    · -- else
      replace h38 := of_decide_eq_false h38
      refine cw_exit ?_
      refine hK19 _ _ ?_
      refine cw_seq fun K86 hK87 => ?_
      refine cw_seq fun K88 hK89 => ?_
      refine cw_region fun K90 hK91 => ?_
      refine rw_cons (op_pv (w0 rfl) rfl rfl (pv_assign (v := (.int .i64 1)) rfl rfl) ?_)
      refine rw_nil (hK91 _ _ ?_)
      refine hK89 _ _ ?_
      refine cw_block ?_
      refine cw_loop (σ := Nat) (fun m => [(5, (.int .i64 ((m : Int) + 1))), (0, (.pointer (some (⟨g, 0, none⟩)))), (3, (.slice A3 xs.length c3))]) (fun m W => (m ≤ xs.length) ∧ Own encI 1 W w.heap.size 3 (.slice A3 xs.length c3) xs ∧ Rd 56 W g (N + k) ∧ Ch [g] w W) (fun m => xs.length - m) 0 ?_ ?_ ?_
      · exact ⟨rfl, rfl, rfl, trivial⟩
      · refine ⟨Nat.zero_le _, hO15, hRd, hc⟩
      · rintro m J96 w92 ⟨hk2, hO15, hRd, hc⟩ K93 hK94
        have hsz98 := hc.size
        have hlt99 := hRd.lt
        have hub17 := hO15.lt
        refine cw_seq fun K100 hK101 => ?_
        refine cw_seq fun K102 hK103 => ?_
        refine cw_region fun K104 hK105 => ?_
        refine rw_cons (op_pv (w0 rfl) rfl rfl (pv_move (v := (.int .i64 ((m : Int) + 1))) rfl rfl) ?_)
        refine rw_cons (op_pv (w0 rfl) rfl rfl (pv_move (v := (.slice A3 xs.length c3)) rfl rfl) ?_)
        refine rw_cons (op_pv (w0 rfl) rfl rfl (pv_len Try.underlying24 rfl rfl) ?_)
        refine rw_cons (op_pv (w0 rfl) rfl rfl (pv_lss rfl rfl rfl) ?_)
        refine rw_nil (hK105 _ _ ?_)
        refine hK103 _ _ ?_
        refine cw_cond rfl (fun h106 => ?_) (fun h106 => ?_)
        · -- then
          replace h106 := of_decide_eq_true h106
          refine cw_skip ?_
          refine hK101 _ _ ?_
          refine cw_seq fun K107 hK108 => ?_
          refine cw_block ?_
          refine cw_seq fun K109 hK110 => ?_
          refine cw_drawn (fun u => Ch [] w92 u) (.free 0 (.free 1 (.free 2 (.free 3 (.free 4 (.free 5 (.free 6 (.free 7 (.free 8 (.free 9 (.done))))))))))) (by kernel_rfl) (by kernel_rfl) (Ch.refl _ _).drew fun K114 hK115 => ?_
          obtain ⟨w111, hw_, hch112, hsz113⟩ : ∃ w1 : World, w1 = w92.drew ∧ Ch [] w92 w1 ∧ w1.heap.size = w92.heap.size := ⟨_, rfl, (Ch.refl _ _).drew, rfl⟩
          rw [← hw_]; clear hw_
          have hr116 : Ch [] w92 w111 := hch112.sub (fun s hs => by cases hs)
          have hO15_r := hO15
          have hRd_r := hRd
          have hsz117 := hch112.size
          replace hO15 := hO15.ch0 hch112
          replace hRd := hRd.ch0 hch112
          replace hc := hc.step0 hch112
          refine tw_free rfl (w0 rfl) rfl rfl (fun u hu => (pv_move (v := (.slice A3 xs.length c3)) rfl rfl : PV _ _ _ _) u) ?_
          refine tw_free rfl (w0 rfl) rfl rfl (fun u hu => (pv_move (v := (.int .i64 ((m : Int) + 1))) rfl rfl : PV _ _ _ _) u) ?_
          refine tw_free rfl (w0 rfl) rfl rfl (fun u hu => (pv_sub rfl rfl rfl (by omega) (by omega) : PV _ _ _ _) u) ?_
          refine tw_free rfl (w0 rfl) rfl rfl (fun u hu => (pv_idx Try.underlying24 T3 rfl rfl rfl ((hO15.rs (fun _ => rfl)).some (k := (((m : Int) + 1) - 1).toNat) (by omega)) (by omega) (by omega) : PV _ _ _ _) u) ?_
          refine tw_free rfl (w0 rfl) rfl rfl (fun u hu => lv_load T3 rfl rfl (((hO15_r.ch0 hu).rs (fun _ => rfl)).cell0 (k := (((m : Int) + 1) - 1).toNat) (by omega) rfl)) ?_
          refine tw_free rfl (w0 rfl) rfl rfl (fun u hu => (pv_move (v := (.slice A3 xs.length c3)) rfl rfl : PV _ _ _ _) u) ?_
          refine tw_free rfl (w0 rfl) rfl rfl (fun u hu => (pv_move (v := (.int .i64 ((m : Int) + 1))) rfl rfl : PV _ _ _ _) u) ?_
          refine tw_free rfl (w0 rfl) rfl rfl (fun u hu => (pv_idx Try.underlying24 T3 rfl rfl rfl ((hO15.rs (fun _ => rfl)).some (k := ((m : Int) + 1).toNat) (by omega)) (by omega) (by omega) : PV _ _ _ _) u) ?_
          refine tw_free rfl (w0 rfl) rfl rfl (fun u hu => lv_load T3 rfl rfl (((hO15_r.ch0 hu).rs (fun _ => rfl)).cell0 (k := ((m : Int) + 1).toNat) (by omega) rfl)) ?_
          refine tw_free rfl (w0 rfl) rfl rfl (fun u hu => (pv_geq rfl rfl rfl : PV _ _ _ _) u) ?_
          clear hO15_r
          clear hRd_r
          refine tw_done (hK115 _ _ ?_)
          refine hK110 _ _ ?_
          refine cw_cond rfl (fun h118 => ?_) (fun h118 => ?_)
          · -- then
            replace h118 := of_decide_eq_true h118
            refine cw_seq fun K119 hK120 => ?_
            refine cw_region fun K121 hK122 => ?_
            refine rw_cons (op_bslice [(.int .i64 3), (.int .i64 5), (.int .i64 8), (.int .i64 20)] Try.underlying24 T3 (w0 rfl) rfl rfl rfl rfl rfl (by simp [Value.cells]) (by decide) ?_)
            intro g124 w123 hg127 hg128 hK126 hch125
            have hO129 : Own encI 1 w123 w.heap.size 3 (.slice ((some ⟨g124, 0, none⟩)) 4 4) ([3, 5, 8, 20] : List Int) := Blk.own (xs := ([3, 5, 8, 20] : List Int)) hK126 (by omega) rfl (by decide) rfl
            have hsz130 := hch125.size
            replace hO15 := hO15.ch0 hch125
            replace hRd := hRd.ch0 hch125
            replace hc := hc.step0 hch125
            have hub131 := hO129.lt
            refine rw_cons (op_pv (w0 rfl) rfl rfl (pv_assign (v := (.slice ((some ⟨g124, 0, none⟩)) 4 4)) rfl rfl) ?_)
            refine rw_nil (hK122 _ _ ?_)
            refine hK120 _ _ ?_
            refine cw_ret ?_
            refine fin1 rfl ?_
            exact ⟨_, _, ([3, 5, 8, 20] : List Int), rfl, hO129, by first | omega | (simp; omega) | decide, hRd.up (by omega), hc⟩
          · -- else
            replace h118 := of_decide_eq_false h118
            refine cw_skip ?_
            refine hK108 _ _ ?_
            refine cw_region fun K132 hK133 => ?_
            refine rw_cons (op_pv (w0 rfl) rfl rfl (pv_move (v := (.int .i64 ((m : Int) + 1))) rfl rfl) ?_)
            refine rw_cons (op_pv (w0 rfl) rfl rfl (pv_add rfl rfl rfl (by omega) (by omega)) ?_)
            refine rw_cons (op_pv (w0 rfl) rfl rfl (pv_assign (v := (.int .i64 (((m : Int) + 1) + 1))) rfl rfl) ?_)
            refine rw_nil (hK133 _ _ ?_)
            refine hK94 _ _ (m + 1) ⟨(iv (by omega)), rfl, rfl, trivial⟩ ⟨?_, hO15, hRd, hc⟩ ?_
            · omega
            · (first | omega | (simp only []; omega))
        · -- else
          replace h106 := of_decide_eq_false h106
          refine cw_exit ?_
          refine hK87 _ _ ?_
          refine cw_seq fun K134 hK135 => ?_
          refine cw_seq fun K136 hK137 => ?_
          refine cw_region fun K138 hK139 => ?_
          refine rw_cons (op_pv (w0 rfl) rfl rfl (pv_move (v := (.slice A3 xs.length c3)) rfl rfl) ?_)
          refine rw_cons (op_pv (w0 rfl) rfl rfl (pv_len Try.underlying24 rfl rfl) ?_)
          refine rw_cons (op_pv (w0 rfl) rfl rfl (pv_gtr rfl rfl rfl) ?_)
          refine rw_cons (op_pv (w0 rfl) rfl rfl (pv_move (v := (.bool (decide (0 < ((xs.length : Int)))))) rfl rfl) ?_)
          refine rw_split 47 rfl (fun hb140 => ?_) (fun hb140 => ?_)
          · -- yes
            replace hb140 := of_decide_eq_true hb140
            refine rw_cons (op_pv (w1y rfl rfl rfl rfl) rfl rfl (pv_move (v := (.pointer (some (⟨g, 0, none⟩)))) rfl rfl) ?_)
            refine rw_cons (op_call (w1y rfl rfl rfl rfl) rfl rfl (rc_call C33 rfl rfl) (pick_ok _ _ _ _ hRd (by omega)) ?_)
            rintro _ w142 ⟨r141, rfl, hr143, hr144, hr145, hRd146, hch147⟩
            have hsz148 := hch147.size
            replace hO15 := hO15.ch hch147 (fun s hs => by have := hO15.off s hs; simp; omega)
            replace hc := hc.step hch147 (fun s hs => .inl hs)
            clear hRd; have hRd := hRd146; clear hRd146
            refine rw_cons (op_pv (w1y rfl rfl rfl rfl) rfl rfl (pv_eql rfl rfl rfl) ?_)
            refine rw_cons (op_pv (w0 rfl) rfl rfl (pv_pickT (v := (.bool (decide ((r141 : Int) = 0)))) rfl rfl rfl) ?_)
            refine rw_nil (hK139 _ _ ?_)
            refine hK137 _ _ ?_
            refine cw_cond rfl (fun h149 => ?_) (fun h149 => ?_)
            · -- then
              replace h149 := of_decide_eq_true h149
              refine cw_drawn (fun u => Ch (g :: obl (.slice A3 xs.length c3)) w142 u) (.free 0 (.free 1 (.free 2 (.free 3 (.free 4 (.free 5 (.free 8 (.two 6 true (.two 7 true (.one 9 true (.free 10 (.one 11 true (.free 12 (.one 13 false (.done)))))) 9 true (.one 7 true (.free 10 (.one 11 true (.free 12 (.one 13 false (.done))))))) 9 true (.one 6 true (.one 7 true (.free 10 (.one 11 true (.free 12 (.one 13 false (.done))))))))))))))) (by kernel_rfl) (by kernel_rfl) (Ch.refl _ _).drew fun K153 hK154 => ?_
              obtain ⟨w150, hw_, hch151, hsz152⟩ : ∃ w1 : World, w1 = w142.drew ∧ Ch [] w142 w1 ∧ w1.heap.size = w142.heap.size := ⟨_, rfl, (Ch.refl _ _).drew, rfl⟩
              rw [← hw_]; clear hw_
              have hr155 : Ch (g :: obl (.slice A3 xs.length c3)) w142 w150 := hch151.sub (fun s hs => by cases hs)
              have hO15_r := hO15
              have hRd_r := hRd
              have hsz156 := hch151.size
              replace hO15 := hO15.ch0 hch151
              replace hRd := hRd.ch0 hch151
              replace hc := hc.step0 hch151
              refine tw_free rfl (w0 rfl) rfl rfl (fun u hu => (pv_move (v := (.slice A3 xs.length c3)) rfl rfl : PV _ _ _ _) u) ?_
              refine tw_free rfl (w0 rfl) rfl rfl (fun u hu => (pv_move (v := (.slice A3 xs.length c3)) rfl rfl : PV _ _ _ _) u) ?_
              refine tw_free rfl (w0 rfl) rfl rfl (fun u hu => (pv_len Try.underlying24 rfl rfl : PV _ _ _ _) u) ?_
              refine tw_free rfl (w0 rfl) rfl rfl (fun u hu => (pv_sub rfl rfl rfl (by omega) (by omega) : PV _ _ _ _) u) ?_
              refine tw_free rfl (w0 rfl) rfl rfl (fun u hu => (pv_move (v := (.slice A3 xs.length c3)) rfl rfl : PV _ _ _ _) u) ?_
              refine tw_free rfl (w0 rfl) rfl rfl (fun u hu => (pv_idx Try.underlying24 T3 rfl rfl rfl ((hO15.rs (fun _ => rfl)).some (k := 0) (by omega)) (by omega) (by omega) : PV _ _ _ _) u) ?_
              refine tw_free rfl (w0 rfl) rfl rfl (fun u hu => (pv_move (v := (.pointer (some (⟨g, 0, none⟩)))) rfl rfl : PV _ _ _ _) u) ?_
              refine tw_two rfl rfl ?_ ?_
              · -- first 6
                refine  (op_lv (w0 rfl) rfl rfl (lv_load T3 rfl rfl ((hO15.rs (fun _ => rfl)).cell0 (k := 0) (by omega) rfl)) ?_)
                refine ⟨fun _ => hr155, ?_⟩
                refine tw_two rfl rfl ?_ ?_
                · -- first 7
                  refine  (op_bslice [(.int .i64 0), (.int .i64 100), (.int .i64 ((el xs 0)))] Try.underlying24 T3 (w0 rfl) rfl rfl rfl rfl rfl (by simp [Value.cells]) (by decide) ?_)
                  intro g158 w157 hg161 hg162 hK160 hch159
                  have hO163 : Own encI 1 w157 w142.heap.size 3 (.slice ((some ⟨g158, 0, none⟩)) 3 3) ([0, 100, (el xs 0)] : List Int) := Blk.own (xs := ([0, 100, (el xs 0)] : List Int)) hK160 (by omega) rfl (by decide) rfl
                  have hsz164 := hch159.size
                  replace hO15 := hO15.ch0 hch159
                  replace hRd := hRd.ch0 hch159
                  replace hc := hc.step0 hch159
                  replace hr155 := hr155.step0 hch159
                  have hub165 := hO163.lt
                  refine ⟨fun _ => hr155, ?_⟩
                  refine tw_one rfl (op_call (w0 rfl) rfl rfl (rc_call C33 rfl rfl) (pick_ok _ _ _ _ hRd (by omega)) ?_)
                  rintro _ w167 ⟨r166, rfl, hr168, hr169, hr170, hRd171, hch172⟩
                  have hsz173 := hch172.size
                  replace hO15 := hO15.ch hch172 (fun s hs => by have := hO15.off s hs; simp; omega)
                  replace hO163 := hO163.ch hch172 (fun s hs => by have := hO163.off s hs; simp; omega)
                  replace hc := hc.step hch172 (fun s hs => .inl hs)
                  replace hr155 := hr155.step hch172 (fun s hs => .inl (by simp at hs; simp [hs]))
                  clear hRd; have hRd := hRd171; clear hRd171
                  refine ⟨fun _ => hr155, ?_⟩
                  refine tw_free rfl (w0 rfl) rfl rfl (fun u hu => (pv_idx Try.underlying24 T3 rfl rfl rfl ((hO163.rs (fun _ => rfl)).some (k := (r166).toNat) (by omega)) (by omega) (by omega) : PV _ _ _ _) u) ?_
                  refine tw_one rfl (op_lv (w0 rfl) rfl rfl (lv_load T3 rfl rfl ((hO163.rs (fun _ => rfl)).cell0 (k := (r166).toNat) (by omega) rfl)) ?_)
                  refine ⟨fun _ => hr155, ?_⟩
                  refine tw_free rfl (w0 rfl) rfl rfl (fun u hu => (pv_idx Try.underlying24 T3 rfl rfl rfl ((hO15.rs (fun _ => rfl)).some (k := (((xs.length : Int)) - 1).toNat) (by omega)) (by omega) (by omega) : PV _ _ _ _) u) ?_
                  refine tw_one rfl (op_store_ownA (k := ((((xs.length : Int)) - 1).toNat)) (off := 0) ((el (([0, 100, (el xs 0)] : List Int)) (r166).toNat)) T3 hO15 (fun _ => rfl) (w0 rfl) rfl rfl rfl rfl rfl (one_all rfl) (by omega) (Nat.le_of_ble_eq_true rfl) rfl ?_)
                  rintro w174 hO176 hch175
                  have hsz177 := hch175.size
                  replace hRd := hRd.ch hch175 (hO15.off.le (by omega))
                  replace hO163 := hO163.ch hch175 (fun s hs hs2 => by first | (have h1 := hO163.off s hs; have h2 := hub17 s hs2; omega) | (have h1 := hub165 s hs; have h2 := hO15.off s hs2; omega))
                  replace hc := hc.step hch175 (fun s hs => .inr (hO15.off s hs))
                  replace hr155 := hr155.step hch175 (fun s hs => by first | exact .inl (List.mem_cons_of_mem _ hs) | exact .inr (hO15.off.le (by omega) s hs))
                  clear hO15; have hO15 := hO176; clear hO176
                  refine ⟨fun h => (by cases h), ?_⟩
                  clear hO15_r
                  clear hRd_r
                  refine tw_done (hK154 _ _ ?_)
                  refine hK135 _ _ ?_
                  refine cw_seq fun K178 hK179 => ?_
                  refine cw_region fun K180 hK181 => ?_
                  refine rw_cons (op_pv (w0 rfl) rfl rfl (pv_move (v := (.slice A3 xs.length c3)) rfl rfl) ?_)
                  refine rw_cons (op_pv (w0 rfl) rfl rfl (pv_assign (v := (.slice A3 xs.length c3)) rfl rfl) ?_)
                  refine rw_nil (hK181 _ _ ?_)
                  refine hK179 _ _ ?_
                  refine cw_ret ?_
                  refine fin1 rfl ?_
                  have hsl : (xs.set ((((xs.length : Int)) - 1).toNat) ((el (([0, 100, (el xs 0)] : List Int)) (r166).toNat))).length = xs.length := List.length_set ..
                  exact ⟨A3, c3, (xs.set ((((xs.length : Int)) - 1).toNat) ((el (([0, 100, (el xs 0)] : List Int)) (r166).toNat))), by rw [hsl]; rfl, by rw [hsl]; exact hO15, by omega, hRd.up (by omega), hc⟩
                · -- first 9
                  refine  (op_call (w0 rfl) rfl rfl (rc_call C33 rfl rfl) (pick_ok _ _ _ _ hRd (by omega)) ?_)
                  rintro _ w183 ⟨r182, rfl, hr184, hr185, hr186, hRd187, hch188⟩
                  have hsz189 := hch188.size
                  replace hO15 := hO15.ch hch188 (fun s hs => by have := hO15.off s hs; simp; omega)
                  replace hc := hc.step hch188 (fun s hs => .inl hs)
                  replace hr155 := hr155.step hch188 (fun s hs => .inl (by simp at hs; simp [hs]))
                  clear hRd; have hRd := hRd187; clear hRd187
                  refine ⟨fun _ => hr155, ?_⟩
                  refine tw_one rfl (op_bslice [(.int .i64 0), (.int .i64 100), (.int .i64 ((el xs 0)))] Try.underlying24 T3 (w0 rfl) rfl rfl rfl rfl rfl (by simp [Value.cells]) (by decide) ?_)
                  intro g191 w190 hg194 hg195 hK193 hch192
                  have hO196 : Own encI 1 w190 w142.heap.size 3 (.slice ((some ⟨g191, 0, none⟩)) 3 3) ([0, 100, (el xs 0)] : List Int) := Blk.own (xs := ([0, 100, (el xs 0)] : List Int)) hK193 (by omega) rfl (by decide) rfl
                  have hsz197 := hch192.size
                  replace hO15 := hO15.ch0 hch192
                  replace hRd := hRd.ch0 hch192
                  replace hc := hc.step0 hch192
                  replace hr155 := hr155.step0 hch192
                  have hub198 := hO196.lt
                  refine ⟨fun _ => hr155, ?_⟩
                  refine tw_free rfl (w0 rfl) rfl rfl (fun u hu => (pv_idx Try.underlying24 T3 rfl rfl rfl ((hO196.rs (fun _ => rfl)).some (k := (r182).toNat) (by omega)) (by omega) (by omega) : PV _ _ _ _) u) ?_
                  refine tw_one rfl (op_lv (w0 rfl) rfl rfl (lv_load T3 rfl rfl ((hO196.rs (fun _ => rfl)).cell0 (k := (r182).toNat) (by omega) rfl)) ?_)
                  refine ⟨fun _ => hr155, ?_⟩
                  refine tw_free rfl (w0 rfl) rfl rfl (fun u hu => (pv_idx Try.underlying24 T3 rfl rfl rfl ((hO15.rs (fun _ => rfl)).some (k := (((xs.length : Int)) - 1).toNat) (by omega)) (by omega) (by omega) : PV _ _ _ _) u) ?_
                  refine tw_one rfl (op_store_ownA (k := ((((xs.length : Int)) - 1).toNat)) (off := 0) ((el (([0, 100, (el xs 0)] : List Int)) (r182).toNat)) T3 hO15 (fun _ => rfl) (w0 rfl) rfl rfl rfl rfl rfl (one_all rfl) (by omega) (Nat.le_of_ble_eq_true rfl) rfl ?_)
                  rintro w199 hO201 hch200
                  have hsz202 := hch200.size
                  replace hRd := hRd.ch hch200 (hO15.off.le (by omega))
                  replace hO196 := hO196.ch hch200 (fun s hs hs2 => by first | (have h1 := hO196.off s hs; have h2 := hub17 s hs2; omega) | (have h1 := hub198 s hs; have h2 := hO15.off s hs2; omega))
                  replace hc := hc.step hch200 (fun s hs => .inr (hO15.off s hs))
                  replace hr155 := hr155.step hch200 (fun s hs => by first | exact .inl (List.mem_cons_of_mem _ hs) | exact .inr (hO15.off.le (by omega) s hs))
                  clear hO15; have hO15 := hO201; clear hO201
                  refine ⟨fun h => (by cases h), ?_⟩
                  clear hO15_r
                  clear hRd_r
                  refine tw_done (hK154 _ _ ?_)
                  refine hK135 _ _ ?_
                  refine cw_seq fun K203 hK204 => ?_
                  refine cw_region fun K205 hK206 => ?_
                  refine rw_cons (op_pv (w0 rfl) rfl rfl (pv_move (v := (.slice A3 xs.length c3)) rfl rfl) ?_)
                  refine rw_cons (op_pv (w0 rfl) rfl rfl (pv_assign (v := (.slice A3 xs.length c3)) rfl rfl) ?_)
                  refine rw_nil (hK206 _ _ ?_)
                  refine hK204 _ _ ?_
                  refine cw_ret ?_
                  refine fin1 rfl ?_
                  have hsl : (xs.set ((((xs.length : Int)) - 1).toNat) ((el (([0, 100, (el xs 0)] : List Int)) (r182).toNat))).length = xs.length := List.length_set ..
                  exact ⟨A3, c3, (xs.set ((((xs.length : Int)) - 1).toNat) ((el (([0, 100, (el xs 0)] : List Int)) (r182).toNat))), by rw [hsl]; rfl, by rw [hsl]; exact hO15, by omega, hRd.up (by omega), hc⟩
              · -- first 9
                refine  (op_call (w0 rfl) rfl rfl (rc_call C33 rfl rfl) (pick_ok _ _ _ _ hRd (by omega)) ?_)
                rintro _ w208 ⟨r207, rfl, hr209, hr210, hr211, hRd212, hch213⟩
                have hsz214 := hch213.size
                replace hO15 := hO15.ch hch213 (fun s hs => by have := hO15.off s hs; simp; omega)
                replace hc := hc.step hch213 (fun s hs => .inl hs)
                replace hr155 := hr155.step hch213 (fun s hs => .inl (by simp at hs; simp [hs]))
                clear hRd; have hRd := hRd212; clear hRd212
                refine ⟨fun _ => hr155, ?_⟩
                refine tw_one rfl (op_lv (w0 rfl) rfl rfl (lv_load T3 rfl rfl ((hO15.rs (fun _ => rfl)).cell0 (k := 0) (by omega) rfl)) ?_)
                refine ⟨fun _ => hr155, ?_⟩
                refine tw_one rfl (op_bslice [(.int .i64 0), (.int .i64 100), (.int .i64 ((el xs 0)))] Try.underlying24 T3 (w0 rfl) rfl rfl rfl rfl rfl (by simp [Value.cells]) (by decide) ?_)
                intro g216 w215 hg219 hg220 hK218 hch217
                have hO221 : Own encI 1 w215 w142.heap.size 3 (.slice ((some ⟨g216, 0, none⟩)) 3 3) ([0, 100, (el xs 0)] : List Int) := Blk.own (xs := ([0, 100, (el xs 0)] : List Int)) hK218 (by omega) rfl (by decide) rfl
                have hsz222 := hch217.size
                replace hO15 := hO15.ch0 hch217
                replace hRd := hRd.ch0 hch217
                replace hc := hc.step0 hch217
                replace hr155 := hr155.step0 hch217
                have hub223 := hO221.lt
                refine ⟨fun _ => hr155, ?_⟩
                refine tw_free rfl (w0 rfl) rfl rfl (fun u hu => (pv_idx Try.underlying24 T3 rfl rfl rfl ((hO221.rs (fun _ => rfl)).some (k := (r207).toNat) (by omega)) (by omega) (by omega) : PV _ _ _ _) u) ?_
                refine tw_one rfl (op_lv (w0 rfl) rfl rfl (lv_load T3 rfl rfl ((hO221.rs (fun _ => rfl)).cell0 (k := (r207).toNat) (by omega) rfl)) ?_)
                refine ⟨fun _ => hr155, ?_⟩
                refine tw_free rfl (w0 rfl) rfl rfl (fun u hu => (pv_idx Try.underlying24 T3 rfl rfl rfl ((hO15.rs (fun _ => rfl)).some (k := (((xs.length : Int)) - 1).toNat) (by omega)) (by omega) (by omega) : PV _ _ _ _) u) ?_
                refine tw_one rfl (op_store_ownA (k := ((((xs.length : Int)) - 1).toNat)) (off := 0) ((el (([0, 100, (el xs 0)] : List Int)) (r207).toNat)) T3 hO15 (fun _ => rfl) (w0 rfl) rfl rfl rfl rfl rfl (one_all rfl) (by omega) (Nat.le_of_ble_eq_true rfl) rfl ?_)
                rintro w224 hO226 hch225
                have hsz227 := hch225.size
                replace hRd := hRd.ch hch225 (hO15.off.le (by omega))
                replace hO221 := hO221.ch hch225 (fun s hs hs2 => by first | (have h1 := hO221.off s hs; have h2 := hub17 s hs2; omega) | (have h1 := hub223 s hs; have h2 := hO15.off s hs2; omega))
                replace hc := hc.step hch225 (fun s hs => .inr (hO15.off s hs))
                replace hr155 := hr155.step hch225 (fun s hs => by first | exact .inl (List.mem_cons_of_mem _ hs) | exact .inr (hO15.off.le (by omega) s hs))
                clear hO15; have hO15 := hO226; clear hO226
                refine ⟨fun h => (by cases h), ?_⟩
                clear hO15_r
                clear hRd_r
                refine tw_done (hK154 _ _ ?_)
                refine hK135 _ _ ?_
                refine cw_seq fun K228 hK229 => ?_
                refine cw_region fun K230 hK231 => ?_
                refine rw_cons (op_pv (w0 rfl) rfl rfl (pv_move (v := (.slice A3 xs.length c3)) rfl rfl) ?_)
                refine rw_cons (op_pv (w0 rfl) rfl rfl (pv_assign (v := (.slice A3 xs.length c3)) rfl rfl) ?_)
                refine rw_nil (hK231 _ _ ?_)
                refine hK229 _ _ ?_
                refine cw_ret ?_
                refine fin1 rfl ?_
                have hsl : (xs.set ((((xs.length : Int)) - 1).toNat) ((el (([0, 100, (el xs 0)] : List Int)) (r207).toNat))).length = xs.length := List.length_set ..
                exact ⟨A3, c3, (xs.set ((((xs.length : Int)) - 1).toNat) ((el (([0, 100, (el xs 0)] : List Int)) (r207).toNat))), by rw [hsl]; rfl, by rw [hsl]; exact hO15, by omega, hRd.up (by omega), hc⟩
            · -- else
              replace h149 := of_decide_eq_false h149
              refine cw_skip ?_
              refine hK135 _ _ ?_
              refine cw_seq fun K232 hK233 => ?_
              refine cw_region fun K234 hK235 => ?_
              refine rw_cons (op_pv (w0 rfl) rfl rfl (pv_move (v := (.slice A3 xs.length c3)) rfl rfl) ?_)
              refine rw_cons (op_pv (w0 rfl) rfl rfl (pv_assign (v := (.slice A3 xs.length c3)) rfl rfl) ?_)
              refine rw_nil (hK235 _ _ ?_)
              refine hK233 _ _ ?_
              refine cw_ret ?_
              refine fin1 rfl ?_
              exact ⟨_, _, xs, rfl, hO15, by first | omega | (simp; omega) | decide, hRd.up (by omega), hc⟩
          · -- no
            replace hb140 := of_decide_eq_false hb140
            refine rw_cons (op_pass (w1n1 rfl rfl rfl rfl) rfl rfl ?_)
            refine rw_cons (op_pass (w1n1 rfl rfl rfl rfl) rfl rfl ?_)
            refine rw_cons (op_pass (w1n1 rfl rfl rfl rfl) rfl rfl ?_)
            refine rw_cons (op_pv (w0 rfl) rfl rfl (pv_pickF (v := (.bool false)) rfl rfl rfl) ?_)
            refine rw_nil (hK139 _ _ ?_)
            refine hK137 _ _ ?_
            refine cw_cond rfl (fun h236 => ?_) (fun h236 => ?_)
            · -- then
              cases h236
            · -- else
              clear h236
              refine cw_skip ?_
              refine hK135 _ _ ?_
              refine cw_seq fun K237 hK238 => ?_
              refine cw_region fun K239 hK240 => ?_
              refine rw_cons (op_pv (w0 rfl) rfl rfl (pv_move (v := (.slice A3 xs.length c3)) rfl rfl) ?_)
              refine rw_cons (op_pv (w0 rfl) rfl rfl (pv_assign (v := (.slice A3 xs.length c3)) rfl rfl) ?_)
              refine rw_nil (hK240 _ _ ?_)
              refine hK238 _ _ ?_
              refine cw_ret ?_
              refine fin1 rfl ?_
              exact ⟨_, _, xs, rfl, hO15, by first | omega | (simp; omega) | decide, hRd.up (by omega), hc⟩
end Go.Proofs.Ytielahdnccocdaa

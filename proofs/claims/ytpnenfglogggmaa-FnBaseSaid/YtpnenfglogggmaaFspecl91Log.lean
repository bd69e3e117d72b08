/-
  The walk of spec.l91Log, written by program: each line names the law of one operation. Conditions: those of the theorem.
-/
import Derived.Test.YtpnenfglogggmaaProg
import Derived.Test.YtpnenfglogggmaaBase
import Derived.Test.YtpnenfglogggmaaFspecl91Update
import Derived.Test.YtpnenfglogggmaaFspecl6Rdpick
import Derived.KernelRfl
namespace Go.Proofs.Ytpnenfglogggmaa
open Go Go.RowKit
set_option linter.unusedVariables false
set_option linter.unusedSimpArgs false
namespace l91Log_okF
theorem T65 : TI Try.prog 65 true (.agg #[.int .i64 0, .int .i64 0]) 2 16 := TI.mk' Try.underlying65 rfl (by kernel_rfl)
theorem C49 : Callable Try.prog 49 := ⟨_, Try.func49, by kernel_rfl, by kernel_rfl⟩
theorem C50 : Callable Try.prog 50 := ⟨_, Try.func50, by kernel_rfl, by kernel_rfl⟩
end l91Log_okF
open l91Log_okF in
set_option maxHeartbeats 4000000 in
theorem l91Log_ok (g : Nat) (N : Nat) (w : World) (hRd : Rd 76 w g N) (hN : N ≤ 940000) :
    Fn Try.prog 34 [(.pointer (some (⟨g, 0, none⟩)))] w fun v w' => ∃ Axs cxs xs, v = .slice Axs xs.length cxs ∧ Own encB 2 w' w.heap.size 65 (.slice Axs xs.length cxs) xs ∧ xs.length ≤ 13 ∧ Rd 76 w' g (N + 60) ∧ Ch [g] w w' := by
  have hg0 := hRd.lt
  refine fn_of (n := 26) Try.func34 rfl rfl rfl rfl ?_
  have hc : Ch [g] w w := Ch.refl _ _
  refine cw_seq fun K1 hK2 => ?_
  refine cw_region fun K3 hK4 => ?_
  refine rw_cons (op_pv (w0 rfl) rfl rfl (pv_assign (v := (.slice none 0 0)) rfl rfl) ?_)
  refine rw_nil (hK4 _ _ ?_)
  refine hK2 _ _ ?_
  refine cw_seq fun K5 hK6 => ?_
  refine cw_region fun K7 hK8 => ?_
  refine rw_cons (op_bslice [] Try.underlying34 T65 (w0 rfl) rfl rfl rfl rfl rfl (by simp [Value.cells]) (by decide) ?_)
  intro g10 w9 hg13 hg14 hK12 hch11
  have hO15 : Own encB 2 w9 w.heap.size 65 (.slice (some ⟨g10, 0, none⟩) 0 0) ([] : List Bt) := Blk.own (xs := ([] : List Bt)) hK12 (by omega) rfl (by decide) rfl
  have hsz16 := hch11.size
  replace hRd := hRd.ch0 hch11
  replace hc := hc.step0 hch11
  have hub17 := hO15.lt
  refine rw_cons (op_pv (w0 rfl) rfl rfl (pv_assign (v := (.slice (some ⟨g10, 0, none⟩) 0 0)) rfl rfl) ?_)
  refine rw_nil (hK8 _ _ ?_)
  refine hK6 _ _ ?_
  refine cw_seq fun K18 hK19 => ?_
  refine cw_region fun K20 hK21 => ?_
  refine rw_cons (op_pv (w0 rfl) rfl rfl (pv_move (v := (.pointer (some (⟨g, 0, none⟩)))) rfl rfl) ?_)
  refine rw_cons (op_call (w0 rfl) rfl rfl (rc_call C49 rfl rfl) (pick_ok _ _ _ _ hRd (by omega)) ?_)
  rintro _ w23 ⟨r22, rfl, hr24, hr25, hr26, hRd27, hch28⟩
  have hsz29 := hch28.size
  replace hO15 := hO15.ch hch28 (fun s hs => by first | (have := hO15.off s hs; simp; omega) | (have := hub17 s hs; simp; omega))
  replace hc := hc.step hch28 (fun s hs => .inl hs)
  clear hRd; have hRd := hRd27; clear hRd27
  refine rw_cons (op_pv (w0 rfl) rfl rfl (pv_assign (v := (.int .i64 r22)) rfl rfl) ?_)
  refine rw_nil (hK21 _ _ ?_)
  refine hK19 _ _ ?_
  refine cw_seq fun K30 hK31 => ?_
  refine cw_seq fun K32 hK33 => ?_
  refine cw_region fun K34 hK35 => ?_
  refine rw_cons (op_pv (w0 rfl) rfl rfl (pv_move (v := (.pointer (some (⟨g, 0, none⟩)))) rfl rfl) ?_)
  refine rw_cons (op_call (w0 rfl) rfl rfl (rc_call C49 rfl rfl) (pick_ok _ _ _ _ hRd (by omega)) ?_)
  rintro _ w37 ⟨r36, rfl, hr38, hr39, hr40, hRd41, hch42⟩
  have hsz43 := hch42.size
  replace hO15 := hO15.ch hch42 (fun s hs => by first | (have := hO15.off s hs; simp; omega) | (have := hub17 s hs; simp; omega))
  replace hc := hc.step hch42 (fun s hs => .inl hs)
  clear hRd; have hRd := hRd41; clear hRd41
  refine rw_cons (op_pv (w0 rfl) rfl rfl (pv_eql rfl rfl rfl) ?_)
  refine rw_nil (hK35 _ _ ?_)
  refine hK33 _ _ ?_
  refine cw_cond rfl (fun h44 => ?_) (fun h44 => ?_)
  · -- then
    replace h44 := of_decide_eq_true h44
    refine cw_region fun K45 hK46 => ?_
    refine rw_cons (op_pv (w0 rfl) rfl rfl (pv_move (v := (.pointer (some (⟨g, 0, none⟩)))) rfl rfl) ?_)
    refine rw_cons (op_call (w0 rfl) rfl rfl (rc_call C49 rfl rfl) (pick_ok _ _ _ _ hRd (by omega)) ?_)
    rintro _ w48 ⟨r47, rfl, hr49, hr50, hr51, hRd52, hch53⟩
    have hsz54 := hch53.size
    replace hO15 := hO15.ch hch53 (fun s hs => by first | (have := hO15.off s hs; simp; omega) | (have := hub17 s hs; simp; omega))
    replace hc := hc.step hch53 (fun s hs => .inl hs)
    clear hRd; have hRd := hRd52; clear hRd52
    refine rw_cons (op_pv (w0 rfl) rfl rfl (pv_add rfl rfl rfl (by omega) (by omega)) ?_)
    refine rw_cons (op_pv (w0 rfl) rfl rfl (pv_assign (v := (.int .i64 (11 + r47))) rfl rfl) ?_)
    refine rw_nil (hK46 _ _ ?_)
    refine hK31 _ _ ?_
    refine cw_seq fun K55 hK56 => ?_
    refine cw_seq fun K57 hK58 => ?_
    refine cw_region fun K59 hK60 => ?_
    refine rw_cons (op_pv (w0 rfl) rfl rfl (pv_assign (v := (.int .i64 0)) rfl rfl) ?_)
    refine rw_nil (hK60 _ _ ?_)
    refine hK58 _ _ ?_
    refine cw_block ?_
    refine cw_loop (σ := Nat × (Option Addr) × Nat × (List Bt)) (fun ⟨k, Ao, co, xs⟩ => [(3, (.slice Ao xs.length co)), (5, (.int .i64 (k : Int))), (0, (.pointer (some (⟨g, 0, none⟩)))), (2, (.slice none 0 0)), (4, (.int .i64 (11 + r47)))]) (fun ⟨k, Ao, co, xs⟩ W => (xs.length = k ∧ (k : Int) ≤ 11 + r47) ∧ Own encB 2 W w.heap.size 65 (.slice Ao xs.length co) xs ∧ Rd 76 W g ((((N + 1) + 1) + 1) + 4 * k) ∧ Ch [g] w W) (fun ⟨k, Ao, co, xs⟩ => (11 + r47 : Int).toNat - k) (0, (some ⟨g10, 0, none⟩), 0, ([] : List Bt)) ?_ ?_ ?_
    · exact ⟨rfl, rfl, rfl, rfl, rfl, trivial⟩
    · refine ⟨⟨rfl, by omega⟩, (hO15.less (by omega)), (hRd.up (by omega)), hc⟩
    · rintro ⟨k, Ao, co, xs⟩ J65 w61 ⟨⟨hxl, hk⟩, hOut, hRd, hc⟩ K62 hK63
      have hsz67 := hc.size
      have hlt68 := hRd.lt
      have hubO := hOut.lt
      have hcapO := hOut.le
      refine cw_seq fun K69 hK70 => ?_
      refine cw_seq fun K71 hK72 => ?_
      refine cw_region fun K73 hK74 => ?_
      refine rw_cons (op_pv (w0 rfl) rfl rfl (pv_move (v := (.int .i64 (k : Int))) rfl rfl) ?_)
      refine rw_cons (op_pv (w0 rfl) rfl rfl (pv_move (v := (.int .i64 (11 + r47))) rfl rfl) ?_)
      refine rw_cons (op_pv (w0 rfl) rfl rfl (pv_lss rfl rfl rfl) ?_)
      refine rw_nil (hK74 _ _ ?_)
      refine hK72 _ _ ?_
      refine cw_cond rfl (fun h75 => ?_) (fun h75 => ?_)
      · -- then
        replace h75 := of_decide_eq_true h75
        refine cw_skip ?_
        refine hK70 _ _ ?_
        refine cw_seq fun K76 hK77 => ?_
        refine cw_block ?_
        refine cw_region fun K78 hK79 => ?_
        refine rw_cons (op_pv (w0 rfl) rfl rfl (pv_move (v := (.slice Ao xs.length co)) rfl rfl) ?_)
        refine rw_cons (op_pv (w0 rfl) rfl rfl (pv_move (v := (.pointer (some (⟨g, 0, none⟩)))) rfl rfl) ?_)
        refine rw_cons (op_call (w0 rfl) rfl rfl (rc_call C50 rfl rfl) (l91Update_ok _ _ _ hRd (by omega)) ?_)
        rintro _ w80 ⟨us82, ua83, rfl, hRd84, hch81⟩
        have hsz85 := hch81.size
        replace hOut := hOut.ch hch81 (fun s hs => by first | (have := hOut.off s hs; simp; omega) | (have := hubO s hs; simp; omega))
        replace hc := hc.step hch81 (fun s hs => .inl hs)
        clear hRd; have hRd := hRd84; clear hRd84
        refine rw_cons (op_bslice [(.agg #[(.int .i64 us82), (.int .i64 ua83)])] Try.underlying34 T65 (w0 rfl) rfl rfl rfl rfl rfl (by simp [Value.cells]) (by decide) ?_)
        intro g87 w86 hg90 hg91 hK89 hch88
        have hO92 : Own encB 2 w86 w80.heap.size 65 (.slice (some ⟨g87, 0, none⟩) 1 1) ([⟨us82, ua83⟩] : List Bt) := Blk.own (xs := ([⟨us82, ua83⟩] : List Bt)) hK89 (by omega) rfl (by decide) rfl
        have hsz93 := hch88.size
        replace hOut := hOut.ch0 hch88
        replace hRd := hRd.ch0 hch88
        replace hc := hc.step0 hch88
        have hub94 := hO92.lt
        refine rw_cons (op_append Try.underlying34 T65 (fun _ => rfl) rfl (by decide) (fun _ => one_all rfl) (w0 rfl) rfl rfl rfl rfl rfl hOut (hO92.rs (fun _ => rfl)) (by unfold maxLen; first | omega | (simp; omega)) (by first | omega | (simp; omega)) (by omega) ?_)
        rintro v95 w96 hO97 hch98 hs99
        have hl100 : (xs ++ ([⟨us82, ua83⟩] : List Bt)).length = xs.length + 1 := by first | (have hl0 := (hO92.rs (fun _ => rfl)).len; omega) | (have hl0 := (hO92.rs (fun _ => rfl)).len; simp only [List.length_append, List.length_cons, List.length_nil] at hl0 ⊢; omega) | simp | rfl
        clear hO92
        have hsz101 := hch98.size
        replace hRd := hRd.ch hch98 (hOut.off.le (by omega))
        replace hc := hc.step hch98 (fun s hs => .inr (hOut.off s hs))
        have hub102 := hO97.lt
        obtain ⟨A103, c104, hv105, hcap106, hcap107⟩ := hO97.form; subst hv105
        refine rw_cons (op_pv (w0 rfl) rfl rfl (pv_assign (v := (.slice A103 (xs ++ ([⟨us82, ua83⟩] : List Bt)).length c104)) rfl rfl) ?_)
        refine rw_nil (hK79 _ _ ?_)
        refine hK77 _ _ ?_
        refine cw_region fun K108 hK109 => ?_
        refine rw_cons (op_pv (w0 rfl) rfl rfl (pv_move (v := (.int .i64 (k : Int))) rfl rfl) ?_)
        refine rw_cons (op_pv (w0 rfl) rfl rfl (pv_add rfl rfl rfl (by omega) (by omega)) ?_)
        refine rw_cons (op_pv (w0 rfl) rfl rfl (pv_assign (v := (.int .i64 ((k : Int) + 1))) rfl rfl) ?_)
        refine rw_nil (hK109 _ _ ?_)
        replace hRd := hRd.up (M := (((N + 1) + 1) + 1) + 4 * (k + 1)) (by omega)
        refine hK63 _ _ (k + 1, A103, c104, (xs ++ ([⟨us82, ua83⟩] : List Bt))) ⟨rfl, (iv (by omega)), rfl, rfl, rfl, trivial⟩ ⟨?_, hO97, hRd, hc⟩ ?_
        · exact ⟨by omega, by omega⟩
        · show (11 + r47 : Int).toNat - (k + 1) < (11 + r47 : Int).toNat - k; omega
      · -- else
        replace h75 := of_decide_eq_false h75
        refine cw_exit ?_
        refine hK56 _ _ ?_
        refine cw_seq fun K110 hK111 => ?_
        refine cw_region fun K112 hK113 => ?_
        refine rw_cons (op_pv (w0 rfl) rfl rfl (pv_move (v := (.slice Ao xs.length co)) rfl rfl) ?_)
        refine rw_cons (op_pv (w0 rfl) rfl rfl (pv_assign (v := (.slice Ao xs.length co)) rfl rfl) ?_)
        refine rw_nil (hK113 _ _ ?_)
        refine hK111 _ _ ?_
        refine cw_ret ?_
        refine fin1 rfl ?_
        exact ⟨_, _, _, (sl_as hOut rfl), own_as (hOut.less (by omega)) rfl, by first | omega | (simp only [List.length_take, List.length_set, List.length_append, List.length_cons, List.length_nil, List.length_replicate]; omega), hRd.up (by omega), hc⟩
  · -- else
    replace h44 := of_decide_eq_false h44
    refine cw_skip ?_
    refine hK31 _ _ ?_
    refine cw_seq fun K114 hK115 => ?_
    refine cw_seq fun K116 hK117 => ?_
    refine cw_region fun K118 hK119 => ?_
    refine rw_cons (op_pv (w0 rfl) rfl rfl (pv_assign (v := (.int .i64 0)) rfl rfl) ?_)
    refine rw_nil (hK119 _ _ ?_)
    refine hK117 _ _ ?_
    refine cw_block ?_
    refine cw_loop (σ := Nat × (Option Addr) × Nat × (List Bt)) (fun ⟨k, Ao, co, xs⟩ => [(3, (.slice Ao xs.length co)), (5, (.int .i64 (k : Int))), (0, (.pointer (some (⟨g, 0, none⟩)))), (2, (.slice none 0 0)), (4, (.int .i64 r22))]) (fun ⟨k, Ao, co, xs⟩ W => (xs.length = k ∧ (k : Int) ≤ r22) ∧ Own encB 2 W w.heap.size 65 (.slice Ao xs.length co) xs ∧ Rd 76 W g (((N + 1) + 1) + 4 * k) ∧ Ch [g] w W) (fun ⟨k, Ao, co, xs⟩ => (r22 : Int).toNat - k) (0, (some ⟨g10, 0, none⟩), 0, ([] : List Bt)) ?_ ?_ ?_
    · exact ⟨rfl, rfl, rfl, rfl, rfl, trivial⟩
    · refine ⟨⟨rfl, by omega⟩, (hO15.less (by omega)), (hRd.up (by omega)), hc⟩
    · rintro ⟨k, Ao, co, xs⟩ J124 w120 ⟨⟨hxl, hk⟩, hOut, hRd, hc⟩ K121 hK122
      have hsz126 := hc.size
      have hlt127 := hRd.lt
      have hubO := hOut.lt
      have hcapO := hOut.le
      refine cw_seq fun K128 hK129 => ?_
      refine cw_seq fun K130 hK131 => ?_
      refine cw_region fun K132 hK133 => ?_
      refine rw_cons (op_pv (w0 rfl) rfl rfl (pv_move (v := (.int .i64 (k : Int))) rfl rfl) ?_)
      refine rw_cons (op_pv (w0 rfl) rfl rfl (pv_move (v := (.int .i64 r22)) rfl rfl) ?_)
      refine rw_cons (op_pv (w0 rfl) rfl rfl (pv_lss rfl rfl rfl) ?_)
      refine rw_nil (hK133 _ _ ?_)
      refine hK131 _ _ ?_
      refine cw_cond rfl (fun h134 => ?_) (fun h134 => ?_)
      · -- then
        replace h134 := of_decide_eq_true h134
        refine cw_skip ?_
        refine hK129 _ _ ?_
        refine cw_seq fun K135 hK136 => ?_
        refine cw_block ?_
        refine cw_region fun K137 hK138 => ?_
        refine rw_cons (op_pv (w0 rfl) rfl rfl (pv_move (v := (.slice Ao xs.length co)) rfl rfl) ?_)
        refine rw_cons (op_pv (w0 rfl) rfl rfl (pv_move (v := (.pointer (some (⟨g, 0, none⟩)))) rfl rfl) ?_)
        refine rw_cons (op_call (w0 rfl) rfl rfl (rc_call C50 rfl rfl) (l91Update_ok _ _ _ hRd (by omega)) ?_)
        rintro _ w139 ⟨us141, ua142, rfl, hRd143, hch140⟩
        have hsz144 := hch140.size
        replace hOut := hOut.ch hch140 (fun s hs => by first | (have := hOut.off s hs; simp; omega) | (have := hubO s hs; simp; omega))
        replace hc := hc.step hch140 (fun s hs => .inl hs)
        clear hRd; have hRd := hRd143; clear hRd143
        refine rw_cons (op_bslice [(.agg #[(.int .i64 us141), (.int .i64 ua142)])] Try.underlying34 T65 (w0 rfl) rfl rfl rfl rfl rfl (by simp [Value.cells]) (by decide) ?_)
        intro g146 w145 hg149 hg150 hK148 hch147
        have hO151 : Own encB 2 w145 w139.heap.size 65 (.slice (some ⟨g146, 0, none⟩) 1 1) ([⟨us141, ua142⟩] : List Bt) := Blk.own (xs := ([⟨us141, ua142⟩] : List Bt)) hK148 (by omega) rfl (by decide) rfl
        have hsz152 := hch147.size
        replace hOut := hOut.ch0 hch147
        replace hRd := hRd.ch0 hch147
        replace hc := hc.step0 hch147
        have hub153 := hO151.lt
        refine rw_cons (op_append Try.underlying34 T65 (fun _ => rfl) rfl (by decide) (fun _ => one_all rfl) (w0 rfl) rfl rfl rfl rfl rfl hOut (hO151.rs (fun _ => rfl)) (by unfold maxLen; first | omega | (simp; omega)) (by first | omega | (simp; omega)) (by omega) ?_)
        rintro v154 w155 hO156 hch157 hs158
        have hl159 : (xs ++ ([⟨us141, ua142⟩] : List Bt)).length = xs.length + 1 := by first | (have hl0 := (hO151.rs (fun _ => rfl)).len; omega) | (have hl0 := (hO151.rs (fun _ => rfl)).len; simp only [List.length_append, List.length_cons, List.length_nil] at hl0 ⊢; omega) | simp | rfl
        clear hO151
        have hsz160 := hch157.size
        replace hRd := hRd.ch hch157 (hOut.off.le (by omega))
        replace hc := hc.step hch157 (fun s hs => .inr (hOut.off s hs))
        have hub161 := hO156.lt
        obtain ⟨A162, c163, hv164, hcap165, hcap166⟩ := hO156.form; subst hv164
        refine rw_cons (op_pv (w0 rfl) rfl rfl (pv_assign (v := (.slice A162 (xs ++ ([⟨us141, ua142⟩] : List Bt)).length c163)) rfl rfl) ?_)
        refine rw_nil (hK138 _ _ ?_)
        refine hK136 _ _ ?_
        refine cw_region fun K167 hK168 => ?_
        refine rw_cons (op_pv (w0 rfl) rfl rfl (pv_move (v := (.int .i64 (k : Int))) rfl rfl) ?_)
        refine rw_cons (op_pv (w0 rfl) rfl rfl (pv_add rfl rfl rfl (by omega) (by omega)) ?_)
        refine rw_cons (op_pv (w0 rfl) rfl rfl (pv_assign (v := (.int .i64 ((k : Int) + 1))) rfl rfl) ?_)
        refine rw_nil (hK168 _ _ ?_)
        replace hRd := hRd.up (M := ((N + 1) + 1) + 4 * (k + 1)) (by omega)
        refine hK122 _ _ (k + 1, A162, c163, (xs ++ ([⟨us141, ua142⟩] : List Bt))) ⟨rfl, (iv (by omega)), rfl, rfl, rfl, trivial⟩ ⟨?_, hO156, hRd, hc⟩ ?_
        · exact ⟨by omega, by omega⟩
        · show (r22 : Int).toNat - (k + 1) < (r22 : Int).toNat - k; omega
      · -- else
        replace h134 := of_decide_eq_false h134
        refine cw_exit ?_
        refine hK115 _ _ ?_
        refine cw_seq fun K169 hK170 => ?_
        refine cw_region fun K171 hK172 => ?_
        refine rw_cons (op_pv (w0 rfl) rfl rfl (pv_move (v := (.slice Ao xs.length co)) rfl rfl) ?_)
        refine rw_cons (op_pv (w0 rfl) rfl rfl (pv_assign (v := (.slice Ao xs.length co)) rfl rfl) ?_)
        refine rw_nil (hK172 _ _ ?_)
        refine hK170 _ _ ?_
        refine cw_ret ?_
        refine fin1 rfl ?_
        exact ⟨_, _, _, (sl_as hOut rfl), own_as (hOut.less (by omega)) rfl, by first | omega | (simp only [List.length_take, List.length_set, List.length_append, List.length_cons, List.length_nil, List.length_replicate]; omega), hRd.up (by omega), hc⟩
end Go.Proofs.Ytpnenfglogggmaa

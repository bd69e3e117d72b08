/-
  The walk of spec.l92Steps, written by program: each line names the law of one operation. Conditions: those of the theorem.
-/
import Derived.Test.YtdnncgapbjnfoaaProg
import Derived.Test.YtdnncgapbjnfoaaSteps
import Derived.Test.YtdnncgapbjnfoaaNode
import Derived.Test.YtdnncgapbjnfoaaFspecl2Empty
import Derived.Test.YtdnncgapbjnfoaaFspecl6Rdpick
import Derived.KernelRfl
namespace Go.Proofs.Ytdnncgapbjnfoaa
open Go Go.RowKit
set_option linter.unusedVariables false
set_option linter.unusedSimpArgs false
namespace l92Steps_okF
theorem T3 : TI Try.prog 3 false (.int .i64 0) 1 8 := TI.mk' Try.underlying3 rfl (by kernel_rfl)
theorem T4 : TI Try.prog 4 false (.bool false) 1 1 := TI.mk' Try.underlying4 rfl (by kernel_rfl)
theorem T27 : TI Try.prog 27 true (.agg #[.bool false, .int .i64 0, .int .i64 0]) 3 24 := TI.mk' Try.underlying27 rfl (by kernel_rfl)
theorem F27_0 : FldOK Try.prog 27 0 0 := ⟨_, _, 0, Try.underlying27, rfl, rfl, by kernel_rfl⟩
theorem F27_1 : FldOK Try.prog 27 1 1 := ⟨_, _, 0, Try.underlying27, rfl, rfl, by kernel_rfl⟩
theorem F27_2 : FldOK Try.prog 27 2 2 := ⟨_, _, 0, Try.underlying27, rfl, rfl, by kernel_rfl⟩
theorem C37 : Callable Try.prog 37 := ⟨_, Try.func37, by kernel_rfl, by kernel_rfl⟩
theorem C38 : Callable Try.prog 38 := ⟨_, Try.func38, by kernel_rfl, by kernel_rfl⟩
theorem B27_0B_1I_2I (a0 : Bool) (a1 : Int) (a2 : Int) (u : World) : (Instr.build 27 #[(0, .bool a0), (1, .int .i64 a1), (2, .int .i64 a2)]).run Try.prog u = .ok (.agg #[.bool a0, .int .i64 a1, .int .i64 a2]) u := by kernel_rfl
end l92Steps_okF
open l92Steps_okF in
set_option maxHeartbeats 4000000 in
theorem l92Steps_ok (g : Nat) (N : Nat) (w : World) (hRd : Rd 62 w g N) (hN : N ≤ 800000) :
    Fn Try.prog 25 [(.pointer (some (⟨g, 0, none⟩)))] w fun v w' => ∃ Axs cxs xs, v = .slice Axs xs.length cxs ∧ Own encP 3 w' w.heap.size 27 (.slice Axs xs.length cxs) xs ∧ xs.length ≤ 21 ∧ Rd 62 w' g (N + 130) ∧ Ch [g] w w' := by
  have hg0 := hRd.lt
  refine fn_of (n := 74) Try.func25 rfl rfl rfl rfl ?_
  have hc : Ch [g] w w := Ch.refl _ _
  refine cw_seq fun K1 hK2 => ?_
  refine cw_region fun K3 hK4 => ?_
  refine rw_cons (op_pv (w0 rfl) rfl rfl (pv_assign (v := (.slice none 0 0)) rfl rfl) ?_)
  refine rw_nil (hK4 _ _ ?_)
  refine hK2 _ _ ?_
  refine cw_seq fun K5 hK6 => ?_
  refine cw_region fun K7 hK8 => ?_
  refine rw_cons (op_bslice [] Try.underlying23 T27 (w0 rfl) rfl rfl rfl rfl rfl (by simp [Value.cells]) (by decide) ?_)
  intro g10 w9 hg13 hg14 hK12 hch11
  have hO15 : Own encP 3 w9 w.heap.size 27 (.slice (some ⟨g10, 0, none⟩) 0 0) ([] : List Stp) := Blk.own (xs := ([] : List Stp)) hK12 (by omega) rfl (by decide) rfl
  have hsz16 := hch11.size
  replace hRd := hRd.ch0 hch11
  replace hc := hc.step0 hch11
  have hub17 := hO15.lt
  refine rw_cons (op_pv (w0 rfl) rfl rfl (pv_assign (v := (.slice (some ⟨g10, 0, none⟩) 0 0)) rfl rfl) ?_)
  refine rw_nil (hK8 _ _ ?_)
  refine hK6 _ _ ?_
  refine cw_seq fun K18 hK19 => ?_
  refine cw_region fun K20 hK21 => ?_
  refine rw_cons (op_call (w0 rfl) rfl rfl (rc_call C37 rfl rfl) (l2Empty_ok  _ ) ?_)
  rintro _ w22 ⟨A24, c25, rfl, hO26, hch23⟩
  have hsz27 := hch23.size
  replace hRd := hRd.ch0 hch23
  replace hO15 := hO15.ch0 hch23
  replace hc := hc.step0 hch23
  have hub28 := hO26.lt
  have hcap29 : empty5.length ≤ c25 := by obtain ⟨_, _, hv, h1, _⟩ := hO26.form; injection hv with _ _ h3; omega
  have hnt30 := empty5_len
  have hdj31 : ∀ s ∈ obl (.slice (some ⟨g10, 0, none⟩) 0 0), s ∉ obl (.slice A24 empty5.length c25) := fun s hs hs2 => by first | (have h1 := hub17 s hs; have h2 := hO26.off s hs2; omega) | (simp [obl, Value.ownBlock] at hs; done) | (simp [obl, Value.ownBlock] at hs2; done) | (have h1 := hub17 s hs; simp [obl, Value.ownBlock] at hs2; omega)
  refine rw_cons (op_pv (w0 rfl) rfl rfl (pv_assign (v := (.slice A24 empty5.length c25)) rfl rfl) ?_)
  refine rw_nil (hK21 _ _ ?_)
  refine hK19 _ _ ?_
  refine cw_seq fun K32 hK33 => ?_
  refine cw_region fun K34 hK35 => ?_
  refine rw_cons (op_pv (w0 rfl) rfl rfl (pv_move (v := (.pointer (some (⟨g, 0, none⟩)))) rfl rfl) ?_)
  refine rw_cons (op_call (w0 rfl) rfl rfl (rc_call C38 rfl rfl) (pick_ok _ _ _ _ hRd (by omega)) ?_)
  rintro _ w37 ⟨r36, rfl, hr38, hr39, hr40, hRd41, hch42⟩
  have hsz43 := hch42.size
  replace hO15 := hO15.ch hch42 (fun s hs => by first | (have := hO15.off s hs; simp; omega) | (have := hub17 s hs; simp; omega))
  replace hO26 := hO26.ch hch42 (fun s hs => by first | (have := hO26.off s hs; simp; omega) | (have := hub28 s hs; simp; omega))
  replace hc := hc.step hch42 (fun s hs => .inl hs)
  clear hRd; have hRd := hRd41; clear hRd41
  refine rw_cons (op_pv (w0 rfl) rfl rfl (pv_assign (v := (.int .i64 r36)) rfl rfl) ?_)
  refine rw_nil (hK35 _ _ ?_)
  refine hK33 _ _ ?_
  refine cw_seq fun K44 hK45 => ?_
  refine cw_seq fun K46 hK47 => ?_
  refine cw_region fun K48 hK49 => ?_
  refine rw_cons (op_pv (w0 rfl) rfl rfl (pv_move (v := (.pointer (some (⟨g, 0, none⟩)))) rfl rfl) ?_)
  refine rw_cons (op_call (w0 rfl) rfl rfl (rc_call C38 rfl rfl) (pick_ok _ _ _ _ hRd (by omega)) ?_)
  rintro _ w51 ⟨r50, rfl, hr52, hr53, hr54, hRd55, hch56⟩
  have hsz57 := hch56.size
  replace hO15 := hO15.ch hch56 (fun s hs => by first | (have := hO15.off s hs; simp; omega) | (have := hub17 s hs; simp; omega))
  replace hO26 := hO26.ch hch56 (fun s hs => by first | (have := hO26.off s hs; simp; omega) | (have := hub28 s hs; simp; omega))
  replace hc := hc.step hch56 (fun s hs => .inl hs)
  clear hRd; have hRd := hRd55; clear hRd55
  refine rw_cons (op_pv (w0 rfl) rfl rfl (pv_eql rfl rfl rfl) ?_)
  refine rw_nil (hK49 _ _ ?_)
  refine hK47 _ _ ?_
  refine cw_cond rfl (fun h58 => ?_) (fun h58 => ?_)
  · -- then
    replace h58 := of_decide_eq_true h58
    refine cw_region fun K59 hK60 => ?_
    refine rw_cons (op_pv (w0 rfl) rfl rfl (pv_move (v := (.pointer (some (⟨g, 0, none⟩)))) rfl rfl) ?_)
    refine rw_cons (op_call (w0 rfl) rfl rfl (rc_call C38 rfl rfl) (pick_ok _ _ _ _ hRd (by omega)) ?_)
    rintro _ w62 ⟨r61, rfl, hr63, hr64, hr65, hRd66, hch67⟩
    have hsz68 := hch67.size
    replace hO15 := hO15.ch hch67 (fun s hs => by first | (have := hO15.off s hs; simp; omega) | (have := hub17 s hs; simp; omega))
    replace hO26 := hO26.ch hch67 (fun s hs => by first | (have := hO26.off s hs; simp; omega) | (have := hub28 s hs; simp; omega))
    replace hc := hc.step hch67 (fun s hs => .inl hs)
    clear hRd; have hRd := hRd66; clear hRd66
    refine rw_cons (op_pv (w0 rfl) rfl rfl (pv_add rfl rfl rfl (by omega) (by omega)) ?_)
    refine rw_cons (op_pv (w0 rfl) rfl rfl (pv_assign (v := (.int .i64 (19 + r61))) rfl rfl) ?_)
    refine rw_nil (hK60 _ _ ?_)
    refine hK45 _ _ ?_
    refine cw_seq fun K69 hK70 => ?_
    refine cw_seq fun K71 hK72 => ?_
    refine cw_region fun K73 hK74 => ?_
    refine rw_cons (op_pv (w0 rfl) rfl rfl (pv_assign (v := (.int .i64 0)) rfl rfl) ?_)
    refine rw_nil (hK74 _ _ ?_)
    refine hK72 _ _ ?_
    refine cw_block ?_
    refine cw_loop (σ := Nat × (Option Addr) × Nat × (List Stp) × (List Int)) (fun ⟨k, Ao, co, xs, ys⟩ => [(3, (.slice Ao xs.length co)), (6, (.int .i64 (k : Int))), (0, (.pointer (some (⟨g, 0, none⟩)))), (2, (.slice none 0 0)), (4, (.slice A24 empty5.length c25)), (5, (.int .i64 (19 + r61)))]) (fun ⟨k, Ao, co, xs, ys⟩ W => (xs.length = k ∧ (k : Int) ≤ 19 + r61 ∧ ys.length = 5) ∧ Own encP 3 W w.heap.size 27 (.slice Ao xs.length co) xs ∧ Own encI 1 W w9.heap.size 3 (.slice A24 empty5.length c25) ys ∧ Rd 62 W g ((((N + 1) + 1) + 1) + 5 * k) ∧ Ch [g] w W ∧ w9.heap.size ≤ W.heap.size ∧ (∀ s ∈ obl (.slice Ao xs.length co), s ∉ obl (.slice A24 empty5.length c25))) (fun ⟨k, Ao, co, xs, ys⟩ => (19 + r61 : Int).toNat - k) (0, (some ⟨g10, 0, none⟩), 0, ([] : List Stp), empty5) ?_ ?_ ?_
    · exact ⟨rfl, rfl, rfl, rfl, rfl, rfl, trivial⟩
    · refine ⟨⟨rfl, by omega, by first | omega | rfl⟩, (hO15.less (by omega)), hO26, (hRd.up (by omega)), hc, (by omega), (fun s hs hs2 => by first | (have h1 := hO15.off s hs; have h2 := hub28 s hs2; omega) | (have h1 := hO26.off s hs; have h2 := hub17 s hs2; omega) | (have h1 := hub17 s hs; have h2 := hO26.off s hs2; omega) | (have h1 := hub28 s hs; have h2 := hO15.off s hs2; omega) | (simp [obl, Value.ownBlock] at hs; done) | (simp [obl, Value.ownBlock] at hs2; done) | exact dj_as hdj31 s hs hs2 | exact dj_sw hdj31 s hs hs2)⟩
    · rintro ⟨k, Ao, co, xs, ys⟩ J81 w75 ⟨⟨hxl, hk, hyl⟩, hOut, hO26, hRd, hc, hmono76, hdj77⟩ K78 hK79
      have hsz83 := hc.size
      have hlt84 := hRd.lt
      have hubO := hOut.lt
      have hub4 := hO26.lt
      have hcapO := hOut.le
      refine cw_seq fun K85 hK86 => ?_
      refine cw_seq fun K87 hK88 => ?_
      refine cw_region fun K89 hK90 => ?_
      refine rw_cons (op_pv (w0 rfl) rfl rfl (pv_move (v := (.int .i64 (k : Int))) rfl rfl) ?_)
      refine rw_cons (op_pv (w0 rfl) rfl rfl (pv_move (v := (.int .i64 (19 + r61))) rfl rfl) ?_)
      refine rw_cons (op_pv (w0 rfl) rfl rfl (pv_lss rfl rfl rfl) ?_)
      refine rw_nil (hK90 _ _ ?_)
      refine hK88 _ _ ?_
      refine cw_cond rfl (fun h91 => ?_) (fun h91 => ?_)
      · -- then
        replace h91 := of_decide_eq_true h91
        refine cw_skip ?_
        refine hK86 _ _ ?_
        refine cw_seq fun K92 hK93 => ?_
        refine cw_block ?_
        refine cw_seq fun K94 hK95 => ?_
        refine cw_region fun K96 hK97 => ?_
        refine rw_cons (op_pv (w0 rfl) rfl rfl (pv_move (v := (.pointer (some (⟨g, 0, none⟩)))) rfl rfl) ?_)
        refine rw_cons (op_call (w0 rfl) rfl rfl (rc_call C38 rfl rfl) (pick_ok _ _ _ _ hRd (by omega)) ?_)
        rintro _ w99 ⟨r98, rfl, hr100, hr101, hr102, hRd103, hch104⟩
        have hsz105 := hch104.size
        replace hOut := hOut.ch hch104 (fun s hs => by first | (have := hOut.off s hs; simp; omega) | (have := hubO s hs; simp; omega))
        replace hO26 := hO26.ch hch104 (fun s hs => by first | (have := hO26.off s hs; simp; omega) | (have := hub4 s hs; simp; omega))
        replace hc := hc.step hch104 (fun s hs => .inl hs)
        clear hRd; have hRd := hRd103; clear hRd103
        refine rw_cons (op_pv (w0 rfl) rfl rfl (pv_eql rfl rfl rfl) ?_)
        refine rw_cons (op_pv (w0 rfl) rfl rfl (pv_move (v := (.pointer (some (⟨g, 0, none⟩)))) rfl rfl) ?_)
        refine rw_cons (op_call (w0 rfl) rfl rfl (rc_call C38 rfl rfl) (pick_ok _ _ _ _ hRd (by omega)) ?_)
        rintro _ w107 ⟨r106, rfl, hr108, hr109, hr110, hRd111, hch112⟩
        have hsz113 := hch112.size
        replace hOut := hOut.ch hch112 (fun s hs => by first | (have := hOut.off s hs; simp; omega) | (have := hubO s hs; simp; omega))
        replace hO26 := hO26.ch hch112 (fun s hs => by first | (have := hO26.off s hs; simp; omega) | (have := hub4 s hs; simp; omega))
        replace hc := hc.step hch112 (fun s hs => .inl hs)
        clear hRd; have hRd := hRd111; clear hRd111
        refine rw_cons (op_pv (w0 rfl) rfl rfl (pv_move (v := (.pointer (some (⟨g, 0, none⟩)))) rfl rfl) ?_)
        refine rw_cons (op_call (w0 rfl) rfl rfl (rc_call C38 rfl rfl) (pick_ok _ _ _ _ hRd (by omega)) ?_)
        rintro _ w115 ⟨r114, rfl, hr116, hr117, hr118, hRd119, hch120⟩
        have hsz121 := hch120.size
        replace hOut := hOut.ch hch120 (fun s hs => by first | (have := hOut.off s hs; simp; omega) | (have := hubO s hs; simp; omega))
        replace hO26 := hO26.ch hch120 (fun s hs => by first | (have := hO26.off s hs; simp; omega) | (have := hub4 s hs; simp; omega))
        replace hc := hc.step hch120 (fun s hs => .inl hs)
        clear hRd; have hRd := hRd119; clear hRd119
        refine rw_cons (op_pv (w0 rfl) rfl rfl (pv_build rfl rfl (B27_0B_1I_2I _ _ _)) ?_)
        refine rw_cons (op_alloc T27 (w0 rfl) rfl rfl rfl ?_)
        rintro g123 w122 hg126 hg127 hB125 hch124
        have hsz128 := hch124.size
        replace hOut := hOut.ch0 hch124
        replace hO26 := hO26.ch0 hch124
        replace hRd := hRd.ch0 hch124
        replace hc := hc.step0 hch124
        replace hB125 : Blk w122 g123 27 [(.bool false), (.int .i64 0), (.int .i64 0)] := hB125
        have hdj129 : ∀ s ∈ obl (.slice Ao xs.length co), s ≠ g123 := fun s hs => by have := hubO s hs; omega
        have hdj130 : ∀ s ∈ obl (.slice A24 empty5.length c25), s ≠ g123 := fun s hs => by have := hub4 s hs; omega
        refine rw_cons (op_store_blk T27 hB125 (w0 rfl) rfl rfl rfl rfl rfl (one_all rfl) (Nat.le_of_ble_eq_true rfl) ?_)
        rintro w131 hB133 hch132
        have hsz134 := hch132.size
        replace hOut := hOut.ch hch132 (fun s hs => by have := dj_asg hdj129 s hs; simpa using this)
        replace hO26 := hO26.ch hch132 (fun s hs => by have := dj_asg hdj130 s hs; simpa using this)
        replace hRd := hRd.ch hch132 (off1 (by omega))
        replace hc := hc.step hch132 (fun s hs => .inr (by simp at hs; omega))
        replace hB125 : Blk w131 g123 27 [(.bool (decide ((r98 : Int) = 0))), (.int .i64 r106), (.int .i64 r114)] := hB133
        clear hB133
        refine rw_nil (hK97 _ _ ?_)
        refine hK95 _ _ ?_
        refine cw_seq fun K135 hK136 => ?_
        refine cw_seq fun K137 hK138 => ?_
        refine cw_region fun K139 hK140 => ?_
        refine rw_cons (op_pv (w0 rfl) rfl rfl (pv_fld F27_0 rfl rfl) ?_)
        refine rw_cons (op_lv (w0 rfl) rfl rfl (lv_load T4 rfl rfl (hB125.cellA (i := 0) rfl)) ?_)
        refine rw_nil (hK140 _ _ ?_)
        refine hK138 _ _ ?_
        refine cw_cond rfl (fun h141 => ?_) (fun h141 => ?_)
        · -- then
          replace h141 := of_decide_eq_true h141
          refine cw_seq fun K142 hK143 => ?_
          refine cw_region fun K144 hK145 => ?_
          refine rw_cons (op_pv (w0 rfl) rfl rfl (pv_move (v := (.slice A24 empty5.length c25)) rfl rfl) ?_)
          refine rw_cons (op_pv (w0 rfl) rfl rfl (pv_fld F27_1 rfl rfl) ?_)
          refine rw_cons (op_lv (w0 rfl) rfl rfl (lv_load T3 rfl rfl (hB125.cellA (i := 1) rfl)) ?_)
          refine rw_cons (op_pv (w0 rfl) rfl rfl (pv_idx Try.underlying42 T3 rfl rfl rfl ((hO26.rs (fun _ => rfl)).some (k := (r106).toNat) (by omega)) (by omega) (by omega)) ?_)
          refine rw_cons (op_lv (w0 rfl) rfl rfl (lv_load T3 rfl rfl ((hO26.rs (fun _ => rfl)).cell0 (k := (r106).toNat) (by omega) rfl)) ?_)
          refine rw_cons (op_pv (w0 rfl) rfl rfl (pv_fld F27_2 rfl rfl) ?_)
          refine rw_cons (op_store_blk T3 hB125 (w0 rfl) rfl rfl rfl rfl rfl (one_all rfl) (Nat.le_of_ble_eq_true rfl) ?_)
          rintro w146 hB148 hch147
          have hsz149 := hch147.size
          replace hOut := hOut.ch hch147 (fun s hs => by have := dj_asg hdj129 s hs; simpa using this)
          replace hO26 := hO26.ch hch147 (fun s hs => by have := dj_asg hdj130 s hs; simpa using this)
          replace hRd := hRd.ch hch147 (off1 (by omega))
          replace hc := hc.step hch147 (fun s hs => .inr (by simp at hs; omega))
          replace hB125 : Blk w146 g123 27 [(.bool (decide ((r98 : Int) = 0))), (.int .i64 r106), (.int .i64 (el ys (r106).toNat))] := hB148
          clear hB148
          refine rw_nil (hK145 _ _ ?_)
          refine hK143 _ _ ?_
          refine cw_seq fun K150 hK151 => ?_
          refine cw_region fun K152 hK153 => ?_
          refine rw_cons (op_pv (w0 rfl) rfl rfl (pv_move (v := (.pointer (some (⟨g, 0, none⟩)))) rfl rfl) ?_)
          refine rw_cons (op_call (w0 rfl) rfl rfl (rc_call C38 rfl rfl) (pick_ok _ _ _ _ hRd (by omega)) ?_)
          rintro _ w155 ⟨r154, rfl, hr156, hr157, hr158, hRd159, hch160⟩
          have hsz161 := hch160.size
          replace hOut := hOut.ch hch160 (fun s hs => by first | (have := hOut.off s hs; simp; omega) | (have := hubO s hs; simp; omega))
          replace hO26 := hO26.ch hch160 (fun s hs => by first | (have := hO26.off s hs; simp; omega) | (have := hub4 s hs; simp; omega))
          replace hB125 := hB125.ch hch160 (by simp; omega)
          replace hc := hc.step hch160 (fun s hs => .inl hs)
          clear hRd; have hRd := hRd159; clear hRd159
          refine rw_cons (op_pv (w0 rfl) rfl rfl (pv_eql rfl rfl rfl) ?_)
          refine rw_nil (hK153 _ _ ?_)
          refine hK151 _ _ ?_
          refine cw_cond rfl (fun h162 => ?_) (fun h162 => ?_)
          · -- then
            replace h162 := of_decide_eq_true h162
            refine cw_region fun K163 hK164 => ?_
            refine rw_cons (op_pv (w0 rfl) rfl rfl (pv_move (v := (.pointer (some (⟨g, 0, none⟩)))) rfl rfl) ?_)
            refine rw_cons (op_call (w0 rfl) rfl rfl (rc_call C38 rfl rfl) (pick_ok _ _ _ _ hRd (by omega)) ?_)
            rintro _ w166 ⟨r165, rfl, hr167, hr168, hr169, hRd170, hch171⟩
            have hsz172 := hch171.size
            replace hOut := hOut.ch hch171 (fun s hs => by first | (have := hOut.off s hs; simp; omega) | (have := hubO s hs; simp; omega))
            replace hO26 := hO26.ch hch171 (fun s hs => by first | (have := hO26.off s hs; simp; omega) | (have := hub4 s hs; simp; omega))
            replace hB125 := hB125.ch hch171 (by simp; omega)
            replace hc := hc.step hch171 (fun s hs => .inl hs)
            clear hRd; have hRd := hRd170; clear hRd170
            refine rw_cons (op_pv (w0 rfl) rfl rfl (pv_fld F27_2 rfl rfl) ?_)
            refine rw_cons (op_store_blk T3 hB125 (w0 rfl) rfl rfl rfl rfl rfl (one_all rfl) (Nat.le_of_ble_eq_true rfl) ?_)
            rintro w173 hB175 hch174
            have hsz176 := hch174.size
            replace hOut := hOut.ch hch174 (fun s hs => by have := dj_asg hdj129 s hs; simpa using this)
            replace hO26 := hO26.ch hch174 (fun s hs => by have := dj_asg hdj130 s hs; simpa using this)
            replace hRd := hRd.ch hch174 (off1 (by omega))
            replace hc := hc.step hch174 (fun s hs => .inr (by simp at hs; omega))
            replace hB125 : Blk w173 g123 27 [(.bool (decide ((r98 : Int) = 0))), (.int .i64 r106), (.int .i64 r165)] := hB175
            clear hB175
            refine rw_nil (hK164 _ _ ?_)
            refine hK136 _ _ ?_
            refine cw_seq fun K177 hK178 => ?_
            refine cw_region fun K179 hK180 => ?_
            refine rw_cons (op_pv (w0 rfl) rfl rfl (pv_move (v := (.slice A24 empty5.length c25)) rfl rfl) ?_)
            refine rw_cons (op_pv (w0 rfl) rfl rfl (pv_fld F27_1 rfl rfl) ?_)
            refine rw_cons (op_lv (w0 rfl) rfl rfl (lv_load T3 rfl rfl (hB125.cellA (i := 1) rfl)) ?_)
            refine rw_cons (op_pv (w0 rfl) rfl rfl (pv_fld F27_2 rfl rfl) ?_)
            refine rw_cons (op_lv (w0 rfl) rfl rfl (lv_load T3 rfl rfl (hB125.cellA (i := 2) rfl)) ?_)
            refine rw_cons (op_pv (w0 rfl) rfl rfl (pv_idx Try.underlying42 T3 rfl rfl rfl ((hO26.rs (fun _ => rfl)).some (k := (r106).toNat) (by omega)) (by omega) (by omega)) ?_)
            refine rw_cons (op_store_ownA (k := (r106).toNat) (off := 0) r165 T3 hO26 (fun _ => rfl) (w0 rfl) rfl rfl rfl rfl rfl (one_all rfl) (by omega) (Nat.le_of_ble_eq_true rfl) rfl ?_)
            rintro w181 hO183 hch182
            have hsz184 := hch182.size
            replace hOut := hOut.ch hch182 (dj_as hdj77)
            replace hRd := hRd.ch hch182 (hO26.off.le (by omega))
            replace hB125 := hB125.ch hch182 (fun hs => dj_asg hdj130 _ hs rfl)
            replace hc := hc.step hch182 (fun s hs => .inr (by have := hO26.off s hs; omega))
            clear hO26; have hO26 := hO183; clear hO183
            refine rw_nil (hK180 _ _ ?_)
            refine hK178 _ _ ?_
            refine cw_region fun K185 hK186 => ?_
            refine rw_cons (op_pv (w0 rfl) rfl rfl (pv_move (v := (.slice Ao xs.length co)) rfl rfl) ?_)
            refine rw_cons (op_lv (w0 rfl) rfl rfl (lv_loadN T27 rfl rfl rfl (fun j v hv => hB125.cellA hv)) ?_)
            refine rw_cons (op_bslice [(.agg #[(.bool (decide ((r98 : Int) = 0))), (.int .i64 r106), (.int .i64 r165)])] Try.underlying23 T27 (w0 rfl) rfl rfl rfl rfl rfl (by simp [Value.cells]) (by decide) ?_)
            intro g188 w187 hg191 hg192 hK190 hch189
            have hO193 : Own encP 3 w187 w181.heap.size 27 (.slice (some ⟨g188, 0, none⟩) 1 1) ([⟨decide ((r98 : Int) = 0), r106, r165⟩] : List Stp) := Blk.own (xs := ([⟨decide ((r98 : Int) = 0), r106, r165⟩] : List Stp)) hK190 (by omega) rfl (by decide) rfl
            have hsz194 := hch189.size
            replace hOut := hOut.ch0 hch189
            replace hO26 := hO26.ch0 hch189
            replace hRd := hRd.ch0 hch189
            replace hB125 := hB125.ch0 hch189
            replace hc := hc.step0 hch189
            have hub195 := hO193.lt
            have hdj196 : ∀ s ∈ obl (.slice Ao xs.length co), s ∉ obl (.slice (some ⟨g188, 0, none⟩) 1 1) := fun s hs hs2 => by first | (have h1 := hubO s hs; have h2 := hO193.off s hs2; omega) | (simp [obl, Value.ownBlock] at hs; done) | (simp [obl, Value.ownBlock] at hs2; done) | (have h1 := hubO s hs; simp [obl, Value.ownBlock] at hs2; omega)
            have hdj197 : ∀ s ∈ obl (.slice A24 empty5.length c25), s ∉ obl (.slice (some ⟨g188, 0, none⟩) 1 1) := fun s hs hs2 => by first | (have h1 := hub4 s hs; have h2 := hO193.off s hs2; omega) | (simp [obl, Value.ownBlock] at hs; done) | (simp [obl, Value.ownBlock] at hs2; done) | (have h1 := hub4 s hs; simp [obl, Value.ownBlock] at hs2; omega)
            refine rw_cons (op_append Try.underlying23 T27 (fun _ => rfl) rfl (by decide) (fun _ => one_all rfl) (w0 rfl) rfl rfl rfl rfl rfl hOut (hO193.rs (fun _ => rfl)) (by unfold maxLen; first | omega | (simp; omega)) (by first | omega | (simp; omega)) (by omega) ?_)
            rintro v198 w199 hO200 hch201 hs202
            have hl203 : (xs ++ ([⟨decide ((r98 : Int) = 0), r106, r165⟩] : List Stp)).length = xs.length + 1 := by first | (have hl0 := (hO193.rs (fun _ => rfl)).len; omega) | (have hl0 := (hO193.rs (fun _ => rfl)).len; simp only [List.length_append, List.length_cons, List.length_nil] at hl0 ⊢; omega) | (simp; omega; done) | simp | rfl
            clear hO193
            have hgl206 := hB125.lt
            have hsz207 := hch201.size
            replace hO26 := hO26.ch hch201 (dj_sw hdj77)
            replace hRd := hRd.ch hch201 (hOut.off.le (by omega))
            replace hB125 := hB125.ch hch201 (fun hs => dj_asg hdj129 _ hs rfl)
            replace hc := hc.step hch201 (fun s hs => .inr (by have := hOut.off s hs; omega))
            have hub208 := hO200.lt
            obtain ⟨A209, c210, hv211, hcap212, hcap213⟩ := hO200.form; subst hv211
            have hdj204 : ∀ s ∈ obl (.slice A209 (xs ++ ([⟨decide ((r98 : Int) = 0), r106, r165⟩] : List Stp)).length c210), s ∉ obl (.slice A24 empty5.length c25) := dj_new hs202 (dj_as hdj77) (fun s hs => by have := hub4 s hs; omega)
            have hdj205 : ∀ s ∈ obl (.slice A209 (xs ++ ([⟨decide ((r98 : Int) = 0), r106, r165⟩] : List Stp)).length c210), s ≠ g123 := dj_newg hs202 (dj_asg hdj129) (by omega)
            refine rw_cons (op_pv (w0 rfl) rfl rfl (pv_assign (v := (.slice A209 (xs ++ ([⟨decide ((r98 : Int) = 0), r106, r165⟩] : List Stp)).length c210)) rfl rfl) ?_)
            refine rw_nil (hK186 _ _ ?_)
            refine hK93 _ _ ?_
            refine cw_region fun K214 hK215 => ?_
            refine rw_cons (op_pv (w0 rfl) rfl rfl (pv_move (v := (.int .i64 (k : Int))) rfl rfl) ?_)
            refine rw_cons (op_pv (w0 rfl) rfl rfl (pv_add rfl rfl rfl (by omega) (by omega)) ?_)
            refine rw_cons (op_pv (w0 rfl) rfl rfl (pv_assign (v := (.int .i64 ((k : Int) + 1))) rfl rfl) ?_)
            refine rw_nil (hK215 _ _ ?_)
            replace hRd := hRd.up (M := (((N + 1) + 1) + 1) + 5 * (k + 1)) (by omega)
            refine hK79 _ _ (k + 1, A209, c210, (xs ++ ([⟨decide ((r98 : Int) = 0), r106, r165⟩] : List Stp)), (ys.set (r106).toNat r165)) ⟨rfl, (iv (by omega)), rfl, rfl, rfl, rfl, trivial⟩ ⟨?_, hO200, hO26, hRd, hc, (by omega), (dj_as hdj204)⟩ ?_
            · exact ⟨by omega, by omega, by first | omega | (simp only [List.length_set]; omega)⟩
            · show (19 + r61 : Int).toNat - (k + 1) < (19 + r61 : Int).toNat - k; omega
          · -- else
            replace h162 := of_decide_eq_false h162
            refine cw_skip ?_
            refine hK136 _ _ ?_
            refine cw_seq fun K216 hK217 => ?_
            refine cw_region fun K218 hK219 => ?_
            refine rw_cons (op_pv (w0 rfl) rfl rfl (pv_move (v := (.slice A24 empty5.length c25)) rfl rfl) ?_)
            refine rw_cons (op_pv (w0 rfl) rfl rfl (pv_fld F27_1 rfl rfl) ?_)
            refine rw_cons (op_lv (w0 rfl) rfl rfl (lv_load T3 rfl rfl (hB125.cellA (i := 1) rfl)) ?_)
            refine rw_cons (op_pv (w0 rfl) rfl rfl (pv_fld F27_2 rfl rfl) ?_)
            refine rw_cons (op_lv (w0 rfl) rfl rfl (lv_load T3 rfl rfl (hB125.cellA (i := 2) rfl)) ?_)
            refine rw_cons (op_pv (w0 rfl) rfl rfl (pv_idx Try.underlying42 T3 rfl rfl rfl ((hO26.rs (fun _ => rfl)).some (k := (r106).toNat) (by omega)) (by omega) (by omega)) ?_)
            refine rw_cons (op_store_ownA (k := (r106).toNat) (off := 0) (el ys (r106).toNat) T3 hO26 (fun _ => rfl) (w0 rfl) rfl rfl rfl rfl rfl (one_all rfl) (by omega) (Nat.le_of_ble_eq_true rfl) rfl ?_)
            rintro w220 hO222 hch221
            have hsz223 := hch221.size
            replace hOut := hOut.ch hch221 (dj_as hdj77)
            replace hRd := hRd.ch hch221 (hO26.off.le (by omega))
            replace hB125 := hB125.ch hch221 (fun hs => dj_asg hdj130 _ hs rfl)
            replace hc := hc.step hch221 (fun s hs => .inr (by have := hO26.off s hs; omega))
            clear hO26; have hO26 := hO222; clear hO222
            refine rw_nil (hK219 _ _ ?_)
            refine hK217 _ _ ?_
            refine cw_region fun K224 hK225 => ?_
            refine rw_cons (op_pv (w0 rfl) rfl rfl (pv_move (v := (.slice Ao xs.length co)) rfl rfl) ?_)
            refine rw_cons (op_lv (w0 rfl) rfl rfl (lv_loadN T27 rfl rfl rfl (fun j v hv => hB125.cellA hv)) ?_)
            refine rw_cons (op_bslice [(.agg #[(.bool (decide ((r98 : Int) = 0))), (.int .i64 r106), (.int .i64 (el ys (r106).toNat))])] Try.underlying23 T27 (w0 rfl) rfl rfl rfl rfl rfl (by simp [Value.cells]) (by decide) ?_)
            intro g227 w226 hg230 hg231 hK229 hch228
            have hO232 : Own encP 3 w226 w220.heap.size 27 (.slice (some ⟨g227, 0, none⟩) 1 1) ([⟨decide ((r98 : Int) = 0), r106, (el ys (r106).toNat)⟩] : List Stp) := Blk.own (xs := ([⟨decide ((r98 : Int) = 0), r106, (el ys (r106).toNat)⟩] : List Stp)) hK229 (by omega) rfl (by decide) rfl
            have hsz233 := hch228.size
            replace hOut := hOut.ch0 hch228
            replace hO26 := hO26.ch0 hch228
            replace hRd := hRd.ch0 hch228
            replace hB125 := hB125.ch0 hch228
            replace hc := hc.step0 hch228
            have hub234 := hO232.lt
            have hdj235 : ∀ s ∈ obl (.slice Ao xs.length co), s ∉ obl (.slice (some ⟨g227, 0, none⟩) 1 1) := fun s hs hs2 => by first | (have h1 := hubO s hs; have h2 := hO232.off s hs2; omega) | (simp [obl, Value.ownBlock] at hs; done) | (simp [obl, Value.ownBlock] at hs2; done) | (have h1 := hubO s hs; simp [obl, Value.ownBlock] at hs2; omega)
            have hdj236 : ∀ s ∈ obl (.slice A24 empty5.length c25), s ∉ obl (.slice (some ⟨g227, 0, none⟩) 1 1) := fun s hs hs2 => by first | (have h1 := hub4 s hs; have h2 := hO232.off s hs2; omega) | (simp [obl, Value.ownBlock] at hs; done) | (simp [obl, Value.ownBlock] at hs2; done) | (have h1 := hub4 s hs; simp [obl, Value.ownBlock] at hs2; omega)
            refine rw_cons (op_append Try.underlying23 T27 (fun _ => rfl) rfl (by decide) (fun _ => one_all rfl) (w0 rfl) rfl rfl rfl rfl rfl hOut (hO232.rs (fun _ => rfl)) (by unfold maxLen; first | omega | (simp; omega)) (by first | omega | (simp; omega)) (by omega) ?_)
            rintro v237 w238 hO239 hch240 hs241
            have hl242 : (xs ++ ([⟨decide ((r98 : Int) = 0), r106, (el ys (r106).toNat)⟩] : List Stp)).length = xs.length + 1 := by first | (have hl0 := (hO232.rs (fun _ => rfl)).len; omega) | (have hl0 := (hO232.rs (fun _ => rfl)).len; simp only [List.length_append, List.length_cons, List.length_nil] at hl0 ⊢; omega) | (simp; omega; done) | simp | rfl
            clear hO232
            have hgl245 := hB125.lt
            have hsz246 := hch240.size
            replace hO26 := hO26.ch hch240 (dj_sw hdj77)
            replace hRd := hRd.ch hch240 (hOut.off.le (by omega))
            replace hB125 := hB125.ch hch240 (fun hs => dj_asg hdj129 _ hs rfl)
            replace hc := hc.step hch240 (fun s hs => .inr (by have := hOut.off s hs; omega))
            have hub247 := hO239.lt
            obtain ⟨A248, c249, hv250, hcap251, hcap252⟩ := hO239.form; subst hv250
            have hdj243 : ∀ s ∈ obl (.slice A248 (xs ++ ([⟨decide ((r98 : Int) = 0), r106, (el ys (r106).toNat)⟩] : List Stp)).length c249), s ∉ obl (.slice A24 empty5.length c25) := dj_new hs241 (dj_as hdj77) (fun s hs => by have := hub4 s hs; omega)
            have hdj244 : ∀ s ∈ obl (.slice A248 (xs ++ ([⟨decide ((r98 : Int) = 0), r106, (el ys (r106).toNat)⟩] : List Stp)).length c249), s ≠ g123 := dj_newg hs241 (dj_asg hdj129) (by omega)
            refine rw_cons (op_pv (w0 rfl) rfl rfl (pv_assign (v := (.slice A248 (xs ++ ([⟨decide ((r98 : Int) = 0), r106, (el ys (r106).toNat)⟩] : List Stp)).length c249)) rfl rfl) ?_)
            refine rw_nil (hK225 _ _ ?_)
            refine hK93 _ _ ?_
            refine cw_region fun K253 hK254 => ?_
            refine rw_cons (op_pv (w0 rfl) rfl rfl (pv_move (v := (.int .i64 (k : Int))) rfl rfl) ?_)
            refine rw_cons (op_pv (w0 rfl) rfl rfl (pv_add rfl rfl rfl (by omega) (by omega)) ?_)
            refine rw_cons (op_pv (w0 rfl) rfl rfl (pv_assign (v := (.int .i64 ((k : Int) + 1))) rfl rfl) ?_)
            refine rw_nil (hK254 _ _ ?_)
            replace hRd := hRd.up (M := (((N + 1) + 1) + 1) + 5 * (k + 1)) (by omega)
            refine hK79 _ _ (k + 1, A248, c249, (xs ++ ([⟨decide ((r98 : Int) = 0), r106, (el ys (r106).toNat)⟩] : List Stp)), (ys.set (r106).toNat (el ys (r106).toNat))) ⟨rfl, (iv (by omega)), rfl, rfl, rfl, rfl, trivial⟩ ⟨?_, hO239, hO26, hRd, hc, (by omega), (dj_as hdj243)⟩ ?_
            · exact ⟨by omega, by omega, by first | omega | (simp only [List.length_set]; omega)⟩
            · show (19 + r61 : Int).toNat - (k + 1) < (19 + r61 : Int).toNat - k; omega
        · -- else
          replace h141 := of_decide_eq_false h141
          refine cw_skip ?_
          refine hK136 _ _ ?_
          refine cw_seq fun K255 hK256 => ?_
          refine cw_region fun K257 hK258 => ?_
          refine rw_cons (op_pv (w0 rfl) rfl rfl (pv_move (v := (.slice A24 empty5.length c25)) rfl rfl) ?_)
          refine rw_cons (op_pv (w0 rfl) rfl rfl (pv_fld F27_1 rfl rfl) ?_)
          refine rw_cons (op_lv (w0 rfl) rfl rfl (lv_load T3 rfl rfl (hB125.cellA (i := 1) rfl)) ?_)
          refine rw_cons (op_pv (w0 rfl) rfl rfl (pv_fld F27_2 rfl rfl) ?_)
          refine rw_cons (op_lv (w0 rfl) rfl rfl (lv_load T3 rfl rfl (hB125.cellA (i := 2) rfl)) ?_)
          refine rw_cons (op_pv (w0 rfl) rfl rfl (pv_idx Try.underlying42 T3 rfl rfl rfl ((hO26.rs (fun _ => rfl)).some (k := (r106).toNat) (by omega)) (by omega) (by omega)) ?_)
          refine rw_cons (op_store_ownA (k := (r106).toNat) (off := 0) r114 T3 hO26 (fun _ => rfl) (w0 rfl) rfl rfl rfl rfl rfl (one_all rfl) (by omega) (Nat.le_of_ble_eq_true rfl) rfl ?_)
          rintro w259 hO261 hch260
          have hsz262 := hch260.size
          replace hOut := hOut.ch hch260 (dj_as hdj77)
          replace hRd := hRd.ch hch260 (hO26.off.le (by omega))
          replace hB125 := hB125.ch hch260 (fun hs => dj_asg hdj130 _ hs rfl)
          replace hc := hc.step hch260 (fun s hs => .inr (by have := hO26.off s hs; omega))
          clear hO26; have hO26 := hO261; clear hO261
          refine rw_nil (hK258 _ _ ?_)
          refine hK256 _ _ ?_
          refine cw_region fun K263 hK264 => ?_
          refine rw_cons (op_pv (w0 rfl) rfl rfl (pv_move (v := (.slice Ao xs.length co)) rfl rfl) ?_)
          refine rw_cons (op_lv (w0 rfl) rfl rfl (lv_loadN T27 rfl rfl rfl (fun j v hv => hB125.cellA hv)) ?_)
          refine rw_cons (op_bslice [(.agg #[(.bool (decide ((r98 : Int) = 0))), (.int .i64 r106), (.int .i64 r114)])] Try.underlying23 T27 (w0 rfl) rfl rfl rfl rfl rfl (by simp [Value.cells]) (by decide) ?_)
          intro g266 w265 hg269 hg270 hK268 hch267
          have hO271 : Own encP 3 w265 w259.heap.size 27 (.slice (some ⟨g266, 0, none⟩) 1 1) ([⟨decide ((r98 : Int) = 0), r106, r114⟩] : List Stp) := Blk.own (xs := ([⟨decide ((r98 : Int) = 0), r106, r114⟩] : List Stp)) hK268 (by omega) rfl (by decide) rfl
          have hsz272 := hch267.size
          replace hOut := hOut.ch0 hch267
          replace hO26 := hO26.ch0 hch267
          replace hRd := hRd.ch0 hch267
          replace hB125 := hB125.ch0 hch267
          replace hc := hc.step0 hch267
          have hub273 := hO271.lt
          have hdj274 : ∀ s ∈ obl (.slice Ao xs.length co), s ∉ obl (.slice (some ⟨g266, 0, none⟩) 1 1) := fun s hs hs2 => by first | (have h1 := hubO s hs; have h2 := hO271.off s hs2; omega) | (simp [obl, Value.ownBlock] at hs; done) | (simp [obl, Value.ownBlock] at hs2; done) | (have h1 := hubO s hs; simp [obl, Value.ownBlock] at hs2; omega)
          have hdj275 : ∀ s ∈ obl (.slice A24 empty5.length c25), s ∉ obl (.slice (some ⟨g266, 0, none⟩) 1 1) := fun s hs hs2 => by first | (have h1 := hub4 s hs; have h2 := hO271.off s hs2; omega) | (simp [obl, Value.ownBlock] at hs; done) | (simp [obl, Value.ownBlock] at hs2; done) | (have h1 := hub4 s hs; simp [obl, Value.ownBlock] at hs2; omega)
          refine rw_cons (op_append Try.underlying23 T27 (fun _ => rfl) rfl (by decide) (fun _ => one_all rfl) (w0 rfl) rfl rfl rfl rfl rfl hOut (hO271.rs (fun _ => rfl)) (by unfold maxLen; first | omega | (simp; omega)) (by first | omega | (simp; omega)) (by omega) ?_)
          rintro v276 w277 hO278 hch279 hs280
          have hl281 : (xs ++ ([⟨decide ((r98 : Int) = 0), r106, r114⟩] : List Stp)).length = xs.length + 1 := by first | (have hl0 := (hO271.rs (fun _ => rfl)).len; omega) | (have hl0 := (hO271.rs (fun _ => rfl)).len; simp only [List.length_append, List.length_cons, List.length_nil] at hl0 ⊢; omega) | (simp; omega; done) | simp | rfl
          clear hO271
          have hgl284 := hB125.lt
          have hsz285 := hch279.size
          replace hO26 := hO26.ch hch279 (dj_sw hdj77)
          replace hRd := hRd.ch hch279 (hOut.off.le (by omega))
          replace hB125 := hB125.ch hch279 (fun hs => dj_asg hdj129 _ hs rfl)
          replace hc := hc.step hch279 (fun s hs => .inr (by have := hOut.off s hs; omega))
          have hub286 := hO278.lt
          obtain ⟨A287, c288, hv289, hcap290, hcap291⟩ := hO278.form; subst hv289
          have hdj282 : ∀ s ∈ obl (.slice A287 (xs ++ ([⟨decide ((r98 : Int) = 0), r106, r114⟩] : List Stp)).length c288), s ∉ obl (.slice A24 empty5.length c25) := dj_new hs280 (dj_as hdj77) (fun s hs => by have := hub4 s hs; omega)
          have hdj283 : ∀ s ∈ obl (.slice A287 (xs ++ ([⟨decide ((r98 : Int) = 0), r106, r114⟩] : List Stp)).length c288), s ≠ g123 := dj_newg hs280 (dj_asg hdj129) (by omega)
          refine rw_cons (op_pv (w0 rfl) rfl rfl (pv_assign (v := (.slice A287 (xs ++ ([⟨decide ((r98 : Int) = 0), r106, r114⟩] : List Stp)).length c288)) rfl rfl) ?_)
          refine rw_nil (hK264 _ _ ?_)
          refine hK93 _ _ ?_
          refine cw_region fun K292 hK293 => ?_
          refine rw_cons (op_pv (w0 rfl) rfl rfl (pv_move (v := (.int .i64 (k : Int))) rfl rfl) ?_)
          refine rw_cons (op_pv (w0 rfl) rfl rfl (pv_add rfl rfl rfl (by omega) (by omega)) ?_)
          refine rw_cons (op_pv (w0 rfl) rfl rfl (pv_assign (v := (.int .i64 ((k : Int) + 1))) rfl rfl) ?_)
          refine rw_nil (hK293 _ _ ?_)
          replace hRd := hRd.up (M := (((N + 1) + 1) + 1) + 5 * (k + 1)) (by omega)
          refine hK79 _ _ (k + 1, A287, c288, (xs ++ ([⟨decide ((r98 : Int) = 0), r106, r114⟩] : List Stp)), (ys.set (r106).toNat r114)) ⟨rfl, (iv (by omega)), rfl, rfl, rfl, rfl, trivial⟩ ⟨?_, hO278, hO26, hRd, hc, (by omega), (dj_as hdj282)⟩ ?_
          · exact ⟨by omega, by omega, by first | omega | (simp only [List.length_set]; omega)⟩
          · show (19 + r61 : Int).toNat - (k + 1) < (19 + r61 : Int).toNat - k; omega
      · -- else
        replace h91 := of_decide_eq_false h91
        refine cw_exit ?_
        refine hK70 _ _ ?_
        refine cw_seq fun K294 hK295 => ?_
        refine cw_seq fun K296 hK297 => ?_
        refine cw_region fun K298 hK299 => ?_
        refine rw_cons (op_pv (w0 rfl) rfl rfl (pv_move (v := (.int .i64 (19 + r61))) rfl rfl) ?_)
        refine rw_cons (op_pv (w0 rfl) rfl rfl (pv_gtr rfl rfl rfl) ?_)
        refine rw_cons (op_pv (w0 rfl) rfl rfl (pv_move (v := (.bool (decide (0 < (19 + r61))))) rfl rfl) ?_)
        refine rw_split 57 rfl (fun hb300 => ?_) (fun hb300 => ?_)
        · -- yes
          replace hb300 := of_decide_eq_true hb300
          refine rw_cons (op_pv (w1y rfl rfl rfl rfl) rfl rfl (pv_move (v := (.pointer (some (⟨g, 0, none⟩)))) rfl rfl) ?_)
          refine rw_cons (op_call (w1y rfl rfl rfl rfl) rfl rfl (rc_call C38 rfl rfl) (pick_ok _ _ _ _ hRd (by omega)) ?_)
          rintro _ w302 ⟨r301, rfl, hr303, hr304, hr305, hRd306, hch307⟩
          have hsz308 := hch307.size
          replace hOut := hOut.ch hch307 (fun s hs => by first | (have := hOut.off s hs; simp; omega) | (have := hubO s hs; simp; omega))
          replace hO26 := hO26.ch hch307 (fun s hs => by first | (have := hO26.off s hs; simp; omega) | (have := hub4 s hs; simp; omega))
          replace hc := hc.step hch307 (fun s hs => .inl hs)
          clear hRd; have hRd := hRd306; clear hRd306
          refine rw_cons (op_pv (w1y rfl rfl rfl rfl) rfl rfl (pv_eql rfl rfl rfl) ?_)
          refine rw_cons (op_pv (w0 rfl) rfl rfl (pv_pickT (v := (.bool (decide ((r301 : Int) = 0)))) rfl rfl rfl) ?_)
          refine rw_nil (hK299 _ _ ?_)
          refine hK297 _ _ ?_
          refine cw_cond rfl (fun h309 => ?_) (fun h309 => ?_)
          · -- then
            replace h309 := of_decide_eq_true h309
            refine cw_region fun K310 hK311 => ?_
            refine rw_cons (op_pv (w0 rfl) rfl rfl (pv_move (v := (.slice Ao xs.length co)) rfl rfl) ?_)
            refine rw_cons (op_pv (w0 rfl) rfl rfl (pv_move (v := (.pointer (some (⟨g, 0, none⟩)))) rfl rfl) ?_)
            refine rw_cons (op_pv (w0 rfl) rfl rfl (pv_move (v := (.int .i64 (19 + r61))) rfl rfl) ?_)
            refine rw_cons (op_call (w0 rfl) rfl rfl (rc_call C38 rfl rfl) (pick_ok _ _ _ _ hRd (by omega)) ?_)
            rintro _ w313 ⟨r312, rfl, hr314, hr315, hr316, hRd317, hch318⟩
            have hsz319 := hch318.size
            replace hOut := hOut.ch hch318 (fun s hs => by first | (have := hOut.off s hs; simp; omega) | (have := hubO s hs; simp; omega))
            replace hO26 := hO26.ch hch318 (fun s hs => by first | (have := hO26.off s hs; simp; omega) | (have := hub4 s hs; simp; omega))
            replace hc := hc.step hch318 (fun s hs => .inl hs)
            clear hRd; have hRd := hRd317; clear hRd317
            refine rw_cons (op_bslice [(.int .i64 (-2)), (.int .i64 (-1)), (.int .i64 100)] Try.underlying42 T3 (w0 rfl) rfl rfl rfl rfl rfl (by simp [Value.cells]) (by decide) ?_)
            intro g321 w320 hg324 hg325 hK323 hch322
            have hO326 : Own encI 1 w320 w313.heap.size 3 (.slice (some ⟨g321, 0, none⟩) 3 3) ([-2, -1, 100] : List Int) := Blk.own (xs := ([-2, -1, 100] : List Int)) hK323 (by omega) rfl (by decide) rfl
            have hsz327 := hch322.size
            replace hOut := hOut.ch0 hch322
            replace hO26 := hO26.ch0 hch322
            replace hRd := hRd.ch0 hch322
            replace hc := hc.step0 hch322
            have hub328 := hO326.lt
            have hdj329 : ∀ s ∈ obl (.slice Ao xs.length co), s ∉ obl (.slice (some ⟨g321, 0, none⟩) 3 3) := fun s hs hs2 => by first | (have h1 := hubO s hs; have h2 := hO326.off s hs2; omega) | (simp [obl, Value.ownBlock] at hs; done) | (simp [obl, Value.ownBlock] at hs2; done) | (have h1 := hubO s hs; simp [obl, Value.ownBlock] at hs2; omega)
            have hdj330 : ∀ s ∈ obl (.slice A24 empty5.length c25), s ∉ obl (.slice (some ⟨g321, 0, none⟩) 3 3) := fun s hs hs2 => by first | (have h1 := hub4 s hs; have h2 := hO326.off s hs2; omega) | (simp [obl, Value.ownBlock] at hs; done) | (simp [obl, Value.ownBlock] at hs2; done) | (have h1 := hub4 s hs; simp [obl, Value.ownBlock] at hs2; omega)
            refine rw_cons (op_pv (w0 rfl) rfl rfl (pv_move (v := (.pointer (some (⟨g, 0, none⟩)))) rfl rfl) ?_)
            refine rw_cons (op_call (w0 rfl) rfl rfl (rc_call C38 rfl rfl) (pick_ok _ _ _ _ hRd (by omega)) ?_)
            rintro _ w332 ⟨r331, rfl, hr333, hr334, hr335, hRd336, hch337⟩
            have hsz338 := hch337.size
            replace hOut := hOut.ch hch337 (fun s hs => by first | (have := hOut.off s hs; simp; omega) | (have := hubO s hs; simp; omega))
            replace hO26 := hO26.ch hch337 (fun s hs => by first | (have := hO26.off s hs; simp; omega) | (have := hub4 s hs; simp; omega))
            replace hO326 := hO326.ch hch337 (fun s hs => by first | (have := hO326.off s hs; simp; omega) | (have := hub328 s hs; simp; omega))
            replace hc := hc.step hch337 (fun s hs => .inl hs)
            clear hRd; have hRd := hRd336; clear hRd336
            refine rw_cons (op_pv (w0 rfl) rfl rfl (pv_idx Try.underlying42 T3 rfl rfl rfl ((hO326.rs (fun _ => rfl)).some (k := (r331).toNat) (by omega)) (by omega) (by omega)) ?_)
            refine rw_cons (op_lv (w0 rfl) rfl rfl (lv_load T3 rfl rfl ((hO326.rs (fun _ => rfl)).cell0 (k := (r331).toNat) (by omega) rfl)) ?_)
            refine rw_cons (op_pv (w0 rfl) rfl rfl (pv_idx Try.underlying23 T27 rfl rfl rfl ((hOut.rs (fun _ => rfl)).some (k := (r312).toNat) (by omega)) (by omega) (by omega)) ?_)
            refine rw_cons (op_pv (w0 rfl) rfl rfl (pv_fld F27_2 rfl rfl) ?_)
            refine rw_cons (op_store_ownA (k := (r312).toNat) (off := 2) (⟨(el xs (r312).toNat).r, (el xs (r312).toNat).k, (el ([-2, -1, 100] : List Int) (r331).toNat)⟩) T3 hOut (fun _ => rfl) (w0 rfl) rfl rfl rfl rfl rfl (one_all rfl) (by omega) (Nat.le_of_ble_eq_true rfl) rfl ?_)
            rintro w339 hO341 hch340
            have hsz342 := hch340.size
            replace hO26 := hO26.ch hch340 (dj_sw hdj77)
            replace hRd := hRd.ch hch340 (hOut.off.le (by omega))
            replace hO326 := hO326.ch hch340 (dj_sw hdj329)
            replace hc := hc.step hch340 (fun s hs => .inr (by have := hOut.off s hs; omega))
            clear hOut; have hOut := hO341; clear hO341
            refine rw_nil (hK311 _ _ ?_)
            refine hK295 _ _ ?_
            refine cw_seq fun K343 hK344 => ?_
            refine cw_region fun K345 hK346 => ?_
            refine rw_cons (op_pv (w0 rfl) rfl rfl (pv_move (v := (.slice Ao xs.length co)) rfl rfl) ?_)
            refine rw_cons (op_pv (w0 rfl) rfl rfl (pv_assign (v := (.slice Ao xs.length co)) rfl rfl) ?_)
            refine rw_nil (hK346 _ _ ?_)
            refine hK344 _ _ ?_
            refine cw_ret ?_
            refine fin1 rfl ?_
            exact ⟨_, _, _, (sl_as hOut rfl), own_as (hOut.less (by omega)) rfl, by first | omega | (simp only [List.length_take, List.length_set, List.length_append, List.length_cons, List.length_nil, List.length_replicate]; omega), hRd.up (by omega), hc⟩
          · -- else
            replace h309 := of_decide_eq_false h309
            refine cw_skip ?_
            refine hK295 _ _ ?_
            refine cw_seq fun K347 hK348 => ?_
            refine cw_region fun K349 hK350 => ?_
            refine rw_cons (op_pv (w0 rfl) rfl rfl (pv_move (v := (.slice Ao xs.length co)) rfl rfl) ?_)
            refine rw_cons (op_pv (w0 rfl) rfl rfl (pv_assign (v := (.slice Ao xs.length co)) rfl rfl) ?_)
            refine rw_nil (hK350 _ _ ?_)
            refine hK348 _ _ ?_
            refine cw_ret ?_
            refine fin1 rfl ?_
            exact ⟨_, _, _, (sl_as hOut rfl), own_as (hOut.less (by omega)) rfl, by first | omega | (simp only [List.length_take, List.length_set, List.length_append, List.length_cons, List.length_nil, List.length_replicate]; omega), hRd.up (by omega), hc⟩
        · -- no
          replace hb300 := of_decide_eq_false hb300
          refine rw_cons (op_pass (w1n1 rfl rfl rfl rfl) rfl rfl ?_)
          refine rw_cons (op_pass (w1n1 rfl rfl rfl rfl) rfl rfl ?_)
          refine rw_cons (op_pass (w1n1 rfl rfl rfl rfl) rfl rfl ?_)
          refine rw_cons (op_pv (w0 rfl) rfl rfl (pv_pickF (v := (.bool false)) rfl rfl rfl) ?_)
          refine rw_nil (hK299 _ _ ?_)
          refine hK297 _ _ ?_
          refine cw_cond rfl (fun h351 => ?_) (fun h351 => ?_)
          · -- then
            cases h351
          · -- else
            clear h351
            refine cw_skip ?_
            refine hK295 _ _ ?_
            refine cw_seq fun K352 hK353 => ?_
            refine cw_region fun K354 hK355 => ?_
            refine rw_cons (op_pv (w0 rfl) rfl rfl (pv_move (v := (.slice Ao xs.length co)) rfl rfl) ?_)
            refine rw_cons (op_pv (w0 rfl) rfl rfl (pv_assign (v := (.slice Ao xs.length co)) rfl rfl) ?_)
            refine rw_nil (hK355 _ _ ?_)
            refine hK353 _ _ ?_
            refine cw_ret ?_
            refine fin1 rfl ?_
            exact ⟨_, _, _, (sl_as hOut rfl), own_as (hOut.less (by omega)) rfl, by first | omega | (simp only [List.length_take, List.length_set, List.length_append, List.length_cons, List.length_nil, List.length_replicate]; omega), hRd.up (by omega), hc⟩
  · -- else
    replace h58 := of_decide_eq_false h58
    refine cw_skip ?_
    refine hK45 _ _ ?_
    refine cw_seq fun K356 hK357 => ?_
    refine cw_seq fun K358 hK359 => ?_
    refine cw_region fun K360 hK361 => ?_
    refine rw_cons (op_pv (w0 rfl) rfl rfl (pv_assign (v := (.int .i64 0)) rfl rfl) ?_)
    refine rw_nil (hK361 _ _ ?_)
    refine hK359 _ _ ?_
    refine cw_block ?_
    refine cw_loop (σ := Nat × (Option Addr) × Nat × (List Stp) × (List Int)) (fun ⟨k, Ao, co, xs, ys⟩ => [(3, (.slice Ao xs.length co)), (6, (.int .i64 (k : Int))), (0, (.pointer (some (⟨g, 0, none⟩)))), (2, (.slice none 0 0)), (4, (.slice A24 empty5.length c25)), (5, (.int .i64 r36))]) (fun ⟨k, Ao, co, xs, ys⟩ W => (xs.length = k ∧ (k : Int) ≤ r36 ∧ ys.length = 5) ∧ Own encP 3 W w.heap.size 27 (.slice Ao xs.length co) xs ∧ Own encI 1 W w9.heap.size 3 (.slice A24 empty5.length c25) ys ∧ Rd 62 W g (((N + 1) + 1) + 5 * k) ∧ Ch [g] w W ∧ w9.heap.size ≤ W.heap.size ∧ (∀ s ∈ obl (.slice Ao xs.length co), s ∉ obl (.slice A24 empty5.length c25))) (fun ⟨k, Ao, co, xs, ys⟩ => (r36 : Int).toNat - k) (0, (some ⟨g10, 0, none⟩), 0, ([] : List Stp), empty5) ?_ ?_ ?_
    · exact ⟨rfl, rfl, rfl, rfl, rfl, rfl, trivial⟩
    · refine ⟨⟨rfl, by omega, by first | omega | rfl⟩, (hO15.less (by omega)), hO26, (hRd.up (by omega)), hc, (by omega), (fun s hs hs2 => by first | (have h1 := hO15.off s hs; have h2 := hub28 s hs2; omega) | (have h1 := hO26.off s hs; have h2 := hub17 s hs2; omega) | (have h1 := hub17 s hs; have h2 := hO26.off s hs2; omega) | (have h1 := hub28 s hs; have h2 := hO15.off s hs2; omega) | (simp [obl, Value.ownBlock] at hs; done) | (simp [obl, Value.ownBlock] at hs2; done) | exact dj_as hdj31 s hs hs2 | exact dj_sw hdj31 s hs hs2)⟩
    · rintro ⟨k, Ao, co, xs, ys⟩ J368 w362 ⟨⟨hxl, hk, hyl⟩, hOut, hO26, hRd, hc, hmono363, hdj364⟩ K365 hK366
      have hsz370 := hc.size
      have hlt371 := hRd.lt
      have hubO := hOut.lt
      have hub4 := hO26.lt
      have hcapO := hOut.le
      refine cw_seq fun K372 hK373 => ?_
      refine cw_seq fun K374 hK375 => ?_
      refine cw_region fun K376 hK377 => ?_
      refine rw_cons (op_pv (w0 rfl) rfl rfl (pv_move (v := (.int .i64 (k : Int))) rfl rfl) ?_)
      refine rw_cons (op_pv (w0 rfl) rfl rfl (pv_move (v := (.int .i64 r36)) rfl rfl) ?_)
      refine rw_cons (op_pv (w0 rfl) rfl rfl (pv_lss rfl rfl rfl) ?_)
      refine rw_nil (hK377 _ _ ?_)
      refine hK375 _ _ ?_
      refine cw_cond rfl (fun h378 => ?_) (fun h378 => ?_)
      · -- then
        replace h378 := of_decide_eq_true h378
        refine cw_skip ?_
        refine hK373 _ _ ?_
        refine cw_seq fun K379 hK380 => ?_
        refine cw_block ?_
        refine cw_seq fun K381 hK382 => ?_
        refine cw_region fun K383 hK384 => ?_
        refine rw_cons (op_pv (w0 rfl) rfl rfl (pv_move (v := (.pointer (some (⟨g, 0, none⟩)))) rfl rfl) ?_)
        refine rw_cons (op_call (w0 rfl) rfl rfl (rc_call C38 rfl rfl) (pick_ok _ _ _ _ hRd (by omega)) ?_)
        rintro _ w386 ⟨r385, rfl, hr387, hr388, hr389, hRd390, hch391⟩
        have hsz392 := hch391.size
        replace hOut := hOut.ch hch391 (fun s hs => by first | (have := hOut.off s hs; simp; omega) | (have := hubO s hs; simp; omega))
        replace hO26 := hO26.ch hch391 (fun s hs => by first | (have := hO26.off s hs; simp; omega) | (have := hub4 s hs; simp; omega))
        replace hc := hc.step hch391 (fun s hs => .inl hs)
        clear hRd; have hRd := hRd390; clear hRd390
        refine rw_cons (op_pv (w0 rfl) rfl rfl (pv_eql rfl rfl rfl) ?_)
        refine rw_cons (op_pv (w0 rfl) rfl rfl (pv_move (v := (.pointer (some (⟨g, 0, none⟩)))) rfl rfl) ?_)
        refine rw_cons (op_call (w0 rfl) rfl rfl (rc_call C38 rfl rfl) (pick_ok _ _ _ _ hRd (by omega)) ?_)
        rintro _ w394 ⟨r393, rfl, hr395, hr396, hr397, hRd398, hch399⟩
        have hsz400 := hch399.size
        replace hOut := hOut.ch hch399 (fun s hs => by first | (have := hOut.off s hs; simp; omega) | (have := hubO s hs; simp; omega))
        replace hO26 := hO26.ch hch399 (fun s hs => by first | (have := hO26.off s hs; simp; omega) | (have := hub4 s hs; simp; omega))
        replace hc := hc.step hch399 (fun s hs => .inl hs)
        clear hRd; have hRd := hRd398; clear hRd398
        refine rw_cons (op_pv (w0 rfl) rfl rfl (pv_move (v := (.pointer (some (⟨g, 0, none⟩)))) rfl rfl) ?_)
        refine rw_cons (op_call (w0 rfl) rfl rfl (rc_call C38 rfl rfl) (pick_ok _ _ _ _ hRd (by omega)) ?_)
        rintro _ w402 ⟨r401, rfl, hr403, hr404, hr405, hRd406, hch407⟩
        have hsz408 := hch407.size
        replace hOut := hOut.ch hch407 (fun s hs => by first | (have := hOut.off s hs; simp; omega) | (have := hubO s hs; simp; omega))
        replace hO26 := hO26.ch hch407 (fun s hs => by first | (have := hO26.off s hs; simp; omega) | (have := hub4 s hs; simp; omega))
        replace hc := hc.step hch407 (fun s hs => .inl hs)
        clear hRd; have hRd := hRd406; clear hRd406
        refine rw_cons (op_pv (w0 rfl) rfl rfl (pv_build rfl rfl (B27_0B_1I_2I _ _ _)) ?_)
        refine rw_cons (op_alloc T27 (w0 rfl) rfl rfl rfl ?_)
        rintro g410 w409 hg413 hg414 hB412 hch411
        have hsz415 := hch411.size
        replace hOut := hOut.ch0 hch411
        replace hO26 := hO26.ch0 hch411
        replace hRd := hRd.ch0 hch411
        replace hc := hc.step0 hch411
        replace hB412 : Blk w409 g410 27 [(.bool false), (.int .i64 0), (.int .i64 0)] := hB412
        have hdj416 : ∀ s ∈ obl (.slice Ao xs.length co), s ≠ g410 := fun s hs => by have := hubO s hs; omega
        have hdj417 : ∀ s ∈ obl (.slice A24 empty5.length c25), s ≠ g410 := fun s hs => by have := hub4 s hs; omega
        refine rw_cons (op_store_blk T27 hB412 (w0 rfl) rfl rfl rfl rfl rfl (one_all rfl) (Nat.le_of_ble_eq_true rfl) ?_)
        rintro w418 hB420 hch419
        have hsz421 := hch419.size
        replace hOut := hOut.ch hch419 (fun s hs => by have := dj_asg hdj416 s hs; simpa using this)
        replace hO26 := hO26.ch hch419 (fun s hs => by have := dj_asg hdj417 s hs; simpa using this)
        replace hRd := hRd.ch hch419 (off1 (by omega))
        replace hc := hc.step hch419 (fun s hs => .inr (by simp at hs; omega))
        replace hB412 : Blk w418 g410 27 [(.bool (decide ((r385 : Int) = 0))), (.int .i64 r393), (.int .i64 r401)] := hB420
        clear hB420
        refine rw_nil (hK384 _ _ ?_)
        refine hK382 _ _ ?_
        refine cw_seq fun K422 hK423 => ?_
        refine cw_seq fun K424 hK425 => ?_
        refine cw_region fun K426 hK427 => ?_
        refine rw_cons (op_pv (w0 rfl) rfl rfl (pv_fld F27_0 rfl rfl) ?_)
        refine rw_cons (op_lv (w0 rfl) rfl rfl (lv_load T4 rfl rfl (hB412.cellA (i := 0) rfl)) ?_)
        refine rw_nil (hK427 _ _ ?_)
        refine hK425 _ _ ?_
        refine cw_cond rfl (fun h428 => ?_) (fun h428 => ?_)
        · -- then
          replace h428 := of_decide_eq_true h428
          refine cw_seq fun K429 hK430 => ?_
          refine cw_region fun K431 hK432 => ?_
          refine rw_cons (op_pv (w0 rfl) rfl rfl (pv_move (v := (.slice A24 empty5.length c25)) rfl rfl) ?_)
          refine rw_cons (op_pv (w0 rfl) rfl rfl (pv_fld F27_1 rfl rfl) ?_)
          refine rw_cons (op_lv (w0 rfl) rfl rfl (lv_load T3 rfl rfl (hB412.cellA (i := 1) rfl)) ?_)
          refine rw_cons (op_pv (w0 rfl) rfl rfl (pv_idx Try.underlying42 T3 rfl rfl rfl ((hO26.rs (fun _ => rfl)).some (k := (r393).toNat) (by omega)) (by omega) (by omega)) ?_)
          refine rw_cons (op_lv (w0 rfl) rfl rfl (lv_load T3 rfl rfl ((hO26.rs (fun _ => rfl)).cell0 (k := (r393).toNat) (by omega) rfl)) ?_)
          refine rw_cons (op_pv (w0 rfl) rfl rfl (pv_fld F27_2 rfl rfl) ?_)
          refine rw_cons (op_store_blk T3 hB412 (w0 rfl) rfl rfl rfl rfl rfl (one_all rfl) (Nat.le_of_ble_eq_true rfl) ?_)
          rintro w433 hB435 hch434
          have hsz436 := hch434.size
          replace hOut := hOut.ch hch434 (fun s hs => by have := dj_asg hdj416 s hs; simpa using this)
          replace hO26 := hO26.ch hch434 (fun s hs => by have := dj_asg hdj417 s hs; simpa using this)
          replace hRd := hRd.ch hch434 (off1 (by omega))
          replace hc := hc.step hch434 (fun s hs => .inr (by simp at hs; omega))
          replace hB412 : Blk w433 g410 27 [(.bool (decide ((r385 : Int) = 0))), (.int .i64 r393), (.int .i64 (el ys (r393).toNat))] := hB435
          clear hB435
          refine rw_nil (hK432 _ _ ?_)
          refine hK430 _ _ ?_
          refine cw_seq fun K437 hK438 => ?_
          refine cw_region fun K439 hK440 => ?_
          refine rw_cons (op_pv (w0 rfl) rfl rfl (pv_move (v := (.pointer (some (⟨g, 0, none⟩)))) rfl rfl) ?_)
          refine rw_cons (op_call (w0 rfl) rfl rfl (rc_call C38 rfl rfl) (pick_ok _ _ _ _ hRd (by omega)) ?_)
          rintro _ w442 ⟨r441, rfl, hr443, hr444, hr445, hRd446, hch447⟩
          have hsz448 := hch447.size
          replace hOut := hOut.ch hch447 (fun s hs => by first | (have := hOut.off s hs; simp; omega) | (have := hubO s hs; simp; omega))
          replace hO26 := hO26.ch hch447 (fun s hs => by first | (have := hO26.off s hs; simp; omega) | (have := hub4 s hs; simp; omega))
          replace hB412 := hB412.ch hch447 (by simp; omega)
          replace hc := hc.step hch447 (fun s hs => .inl hs)
          clear hRd; have hRd := hRd446; clear hRd446
          refine rw_cons (op_pv (w0 rfl) rfl rfl (pv_eql rfl rfl rfl) ?_)
          refine rw_nil (hK440 _ _ ?_)
          refine hK438 _ _ ?_
          refine cw_cond rfl (fun h449 => ?_) (fun h449 => ?_)
          · -- then
            replace h449 := of_decide_eq_true h449
            refine cw_region fun K450 hK451 => ?_
            refine rw_cons (op_pv (w0 rfl) rfl rfl (pv_move (v := (.pointer (some (⟨g, 0, none⟩)))) rfl rfl) ?_)
            refine rw_cons (op_call (w0 rfl) rfl rfl (rc_call C38 rfl rfl) (pick_ok _ _ _ _ hRd (by omega)) ?_)
            rintro _ w453 ⟨r452, rfl, hr454, hr455, hr456, hRd457, hch458⟩
            have hsz459 := hch458.size
            replace hOut := hOut.ch hch458 (fun s hs => by first | (have := hOut.off s hs; simp; omega) | (have := hubO s hs; simp; omega))
            replace hO26 := hO26.ch hch458 (fun s hs => by first | (have := hO26.off s hs; simp; omega) | (have := hub4 s hs; simp; omega))
            replace hB412 := hB412.ch hch458 (by simp; omega)
            replace hc := hc.step hch458 (fun s hs => .inl hs)
            clear hRd; have hRd := hRd457; clear hRd457
            refine rw_cons (op_pv (w0 rfl) rfl rfl (pv_fld F27_2 rfl rfl) ?_)
            refine rw_cons (op_store_blk T3 hB412 (w0 rfl) rfl rfl rfl rfl rfl (one_all rfl) (Nat.le_of_ble_eq_true rfl) ?_)
            rintro w460 hB462 hch461
            have hsz463 := hch461.size
            replace hOut := hOut.ch hch461 (fun s hs => by have := dj_asg hdj416 s hs; simpa using this)
            replace hO26 := hO26.ch hch461 (fun s hs => by have := dj_asg hdj417 s hs; simpa using this)
            replace hRd := hRd.ch hch461 (off1 (by omega))
            replace hc := hc.step hch461 (fun s hs => .inr (by simp at hs; omega))
            replace hB412 : Blk w460 g410 27 [(.bool (decide ((r385 : Int) = 0))), (.int .i64 r393), (.int .i64 r452)] := hB462
            clear hB462
            refine rw_nil (hK451 _ _ ?_)
            refine hK423 _ _ ?_
            refine cw_seq fun K464 hK465 => ?_
            refine cw_region fun K466 hK467 => ?_
            refine rw_cons (op_pv (w0 rfl) rfl rfl (pv_move (v := (.slice A24 empty5.length c25)) rfl rfl) ?_)
            refine rw_cons (op_pv (w0 rfl) rfl rfl (pv_fld F27_1 rfl rfl) ?_)
            refine rw_cons (op_lv (w0 rfl) rfl rfl (lv_load T3 rfl rfl (hB412.cellA (i := 1) rfl)) ?_)
            refine rw_cons (op_pv (w0 rfl) rfl rfl (pv_fld F27_2 rfl rfl) ?_)
            refine rw_cons (op_lv (w0 rfl) rfl rfl (lv_load T3 rfl rfl (hB412.cellA (i := 2) rfl)) ?_)
            refine rw_cons (op_pv (w0 rfl) rfl rfl (pv_idx Try.underlying42 T3 rfl rfl rfl ((hO26.rs (fun _ => rfl)).some (k := (r393).toNat) (by omega)) (by omega) (by omega)) ?_)
            refine rw_cons (op_store_ownA (k := (r393).toNat) (off := 0) r452 T3 hO26 (fun _ => rfl) (w0 rfl) rfl rfl rfl rfl rfl (one_all rfl) (by omega) (Nat.le_of_ble_eq_true rfl) rfl ?_)
            rintro w468 hO470 hch469
            have hsz471 := hch469.size
            replace hOut := hOut.ch hch469 (dj_as hdj364)
            replace hRd := hRd.ch hch469 (hO26.off.le (by omega))
            replace hB412 := hB412.ch hch469 (fun hs => dj_asg hdj417 _ hs rfl)
            replace hc := hc.step hch469 (fun s hs => .inr (by have := hO26.off s hs; omega))
            clear hO26; have hO26 := hO470; clear hO470
            refine rw_nil (hK467 _ _ ?_)
            refine hK465 _ _ ?_
            refine cw_region fun K472 hK473 => ?_
            refine rw_cons (op_pv (w0 rfl) rfl rfl (pv_move (v := (.slice Ao xs.length co)) rfl rfl) ?_)
            refine rw_cons (op_lv (w0 rfl) rfl rfl (lv_loadN T27 rfl rfl rfl (fun j v hv => hB412.cellA hv)) ?_)
            refine rw_cons (op_bslice [(.agg #[(.bool (decide ((r385 : Int) = 0))), (.int .i64 r393), (.int .i64 r452)])] Try.underlying23 T27 (w0 rfl) rfl rfl rfl rfl rfl (by simp [Value.cells]) (by decide) ?_)
            intro g475 w474 hg478 hg479 hK477 hch476
            have hO480 : Own encP 3 w474 w468.heap.size 27 (.slice (some ⟨g475, 0, none⟩) 1 1) ([⟨decide ((r385 : Int) = 0), r393, r452⟩] : List Stp) := Blk.own (xs := ([⟨decide ((r385 : Int) = 0), r393, r452⟩] : List Stp)) hK477 (by omega) rfl (by decide) rfl
            have hsz481 := hch476.size
            replace hOut := hOut.ch0 hch476
            replace hO26 := hO26.ch0 hch476
            replace hRd := hRd.ch0 hch476
            replace hB412 := hB412.ch0 hch476
            replace hc := hc.step0 hch476
            have hub482 := hO480.lt
            have hdj483 : ∀ s ∈ obl (.slice Ao xs.length co), s ∉ obl (.slice (some ⟨g475, 0, none⟩) 1 1) := fun s hs hs2 => by first | (have h1 := hubO s hs; have h2 := hO480.off s hs2; omega) | (simp [obl, Value.ownBlock] at hs; done) | (simp [obl, Value.ownBlock] at hs2; done) | (have h1 := hubO s hs; simp [obl, Value.ownBlock] at hs2; omega)
            have hdj484 : ∀ s ∈ obl (.slice A24 empty5.length c25), s ∉ obl (.slice (some ⟨g475, 0, none⟩) 1 1) := fun s hs hs2 => by first | (have h1 := hub4 s hs; have h2 := hO480.off s hs2; omega) | (simp [obl, Value.ownBlock] at hs; done) | (simp [obl, Value.ownBlock] at hs2; done) | (have h1 := hub4 s hs; simp [obl, Value.ownBlock] at hs2; omega)
            refine rw_cons (op_append Try.underlying23 T27 (fun _ => rfl) rfl (by decide) (fun _ => one_all rfl) (w0 rfl) rfl rfl rfl rfl rfl hOut (hO480.rs (fun _ => rfl)) (by unfold maxLen; first | omega | (simp; omega)) (by first | omega | (simp; omega)) (by omega) ?_)
            rintro v485 w486 hO487 hch488 hs489
            have hl490 : (xs ++ ([⟨decide ((r385 : Int) = 0), r393, r452⟩] : List Stp)).length = xs.length + 1 := by first | (have hl0 := (hO480.rs (fun _ => rfl)).len; omega) | (have hl0 := (hO480.rs (fun _ => rfl)).len; simp only [List.length_append, List.length_cons, List.length_nil] at hl0 ⊢; omega) | (simp; omega; done) | simp | rfl
            clear hO480
            have hgl493 := hB412.lt
            have hsz494 := hch488.size
            replace hO26 := hO26.ch hch488 (dj_sw hdj364)
            replace hRd := hRd.ch hch488 (hOut.off.le (by omega))
            replace hB412 := hB412.ch hch488 (fun hs => dj_asg hdj416 _ hs rfl)
            replace hc := hc.step hch488 (fun s hs => .inr (by have := hOut.off s hs; omega))
            have hub495 := hO487.lt
            obtain ⟨A496, c497, hv498, hcap499, hcap500⟩ := hO487.form; subst hv498
            have hdj491 : ∀ s ∈ obl (.slice A496 (xs ++ ([⟨decide ((r385 : Int) = 0), r393, r452⟩] : List Stp)).length c497), s ∉ obl (.slice A24 empty5.length c25) := dj_new hs489 (dj_as hdj364) (fun s hs => by have := hub4 s hs; omega)
            have hdj492 : ∀ s ∈ obl (.slice A496 (xs ++ ([⟨decide ((r385 : Int) = 0), r393, r452⟩] : List Stp)).length c497), s ≠ g410 := dj_newg hs489 (dj_asg hdj416) (by omega)
            refine rw_cons (op_pv (w0 rfl) rfl rfl (pv_assign (v := (.slice A496 (xs ++ ([⟨decide ((r385 : Int) = 0), r393, r452⟩] : List Stp)).length c497)) rfl rfl) ?_)
            refine rw_nil (hK473 _ _ ?_)
            refine hK380 _ _ ?_
            refine cw_region fun K501 hK502 => ?_
            refine rw_cons (op_pv (w0 rfl) rfl rfl (pv_move (v := (.int .i64 (k : Int))) rfl rfl) ?_)
            refine rw_cons (op_pv (w0 rfl) rfl rfl (pv_add rfl rfl rfl (by omega) (by omega)) ?_)
            refine rw_cons (op_pv (w0 rfl) rfl rfl (pv_assign (v := (.int .i64 ((k : Int) + 1))) rfl rfl) ?_)
            refine rw_nil (hK502 _ _ ?_)
            replace hRd := hRd.up (M := ((N + 1) + 1) + 5 * (k + 1)) (by omega)
            refine hK366 _ _ (k + 1, A496, c497, (xs ++ ([⟨decide ((r385 : Int) = 0), r393, r452⟩] : List Stp)), (ys.set (r393).toNat r452)) ⟨rfl, (iv (by omega)), rfl, rfl, rfl, rfl, trivial⟩ ⟨?_, hO487, hO26, hRd, hc, (by omega), (dj_as hdj491)⟩ ?_
            · exact ⟨by omega, by omega, by first | omega | (simp only [List.length_set]; omega)⟩
            · show (r36 : Int).toNat - (k + 1) < (r36 : Int).toNat - k; omega
          · -- else
            replace h449 := of_decide_eq_false h449
            refine cw_skip ?_
            refine hK423 _ _ ?_
            refine cw_seq fun K503 hK504 => ?_
            refine cw_region fun K505 hK506 => ?_
            refine rw_cons (op_pv (w0 rfl) rfl rfl (pv_move (v := (.slice A24 empty5.length c25)) rfl rfl) ?_)
            refine rw_cons (op_pv (w0 rfl) rfl rfl (pv_fld F27_1 rfl rfl) ?_)
            refine rw_cons (op_lv (w0 rfl) rfl rfl (lv_load T3 rfl rfl (hB412.cellA (i := 1) rfl)) ?_)
            refine rw_cons (op_pv (w0 rfl) rfl rfl (pv_fld F27_2 rfl rfl) ?_)
            refine rw_cons (op_lv (w0 rfl) rfl rfl (lv_load T3 rfl rfl (hB412.cellA (i := 2) rfl)) ?_)
            refine rw_cons (op_pv (w0 rfl) rfl rfl (pv_idx Try.underlying42 T3 rfl rfl rfl ((hO26.rs (fun _ => rfl)).some (k := (r393).toNat) (by omega)) (by omega) (by omega)) ?_)
            refine rw_cons (op_store_ownA (k := (r393).toNat) (off := 0) (el ys (r393).toNat) T3 hO26 (fun _ => rfl) (w0 rfl) rfl rfl rfl rfl rfl (one_all rfl) (by omega) (Nat.le_of_ble_eq_true rfl) rfl ?_)
            rintro w507 hO509 hch508
            have hsz510 := hch508.size
            replace hOut := hOut.ch hch508 (dj_as hdj364)
            replace hRd := hRd.ch hch508 (hO26.off.le (by omega))
            replace hB412 := hB412.ch hch508 (fun hs => dj_asg hdj417 _ hs rfl)
            replace hc := hc.step hch508 (fun s hs => .inr (by have := hO26.off s hs; omega))
            clear hO26; have hO26 := hO509; clear hO509
            refine rw_nil (hK506 _ _ ?_)
            refine hK504 _ _ ?_
            refine cw_region fun K511 hK512 => ?_
            refine rw_cons (op_pv (w0 rfl) rfl rfl (pv_move (v := (.slice Ao xs.length co)) rfl rfl) ?_)
            refine rw_cons (op_lv (w0 rfl) rfl rfl (lv_loadN T27 rfl rfl rfl (fun j v hv => hB412.cellA hv)) ?_)
            refine rw_cons (op_bslice [(.agg #[(.bool (decide ((r385 : Int) = 0))), (.int .i64 r393), (.int .i64 (el ys (r393).toNat))])] Try.underlying23 T27 (w0 rfl) rfl rfl rfl rfl rfl (by simp [Value.cells]) (by decide) ?_)
            intro g514 w513 hg517 hg518 hK516 hch515
            have hO519 : Own encP 3 w513 w507.heap.size 27 (.slice (some ⟨g514, 0, none⟩) 1 1) ([⟨decide ((r385 : Int) = 0), r393, (el ys (r393).toNat)⟩] : List Stp) := Blk.own (xs := ([⟨decide ((r385 : Int) = 0), r393, (el ys (r393).toNat)⟩] : List Stp)) hK516 (by omega) rfl (by decide) rfl
            have hsz520 := hch515.size
            replace hOut := hOut.ch0 hch515
            replace hO26 := hO26.ch0 hch515
            replace hRd := hRd.ch0 hch515
            replace hB412 := hB412.ch0 hch515
            replace hc := hc.step0 hch515
            have hub521 := hO519.lt
            have hdj522 : ∀ s ∈ obl (.slice Ao xs.length co), s ∉ obl (.slice (some ⟨g514, 0, none⟩) 1 1) := fun s hs hs2 => by first | (have h1 := hubO s hs; have h2 := hO519.off s hs2; omega) | (simp [obl, Value.ownBlock] at hs; done) | (simp [obl, Value.ownBlock] at hs2; done) | (have h1 := hubO s hs; simp [obl, Value.ownBlock] at hs2; omega)
            have hdj523 : ∀ s ∈ obl (.slice A24 empty5.length c25), s ∉ obl (.slice (some ⟨g514, 0, none⟩) 1 1) := fun s hs hs2 => by first | (have h1 := hub4 s hs; have h2 := hO519.off s hs2; omega) | (simp [obl, Value.ownBlock] at hs; done) | (simp [obl, Value.ownBlock] at hs2; done) | (have h1 := hub4 s hs; simp [obl, Value.ownBlock] at hs2; omega)
            refine rw_cons (op_append Try.underlying23 T27 (fun _ => rfl) rfl (by decide) (fun _ => one_all rfl) (w0 rfl) rfl rfl rfl rfl rfl hOut (hO519.rs (fun _ => rfl)) (by unfold maxLen; first | omega | (simp; omega)) (by first | omega | (simp; omega)) (by omega) ?_)
            rintro v524 w525 hO526 hch527 hs528
            have hl529 : (xs ++ ([⟨decide ((r385 : Int) = 0), r393, (el ys (r393).toNat)⟩] : List Stp)).length = xs.length + 1 := by first | (have hl0 := (hO519.rs (fun _ => rfl)).len; omega) | (have hl0 := (hO519.rs (fun _ => rfl)).len; simp only [List.length_append, List.length_cons, List.length_nil] at hl0 ⊢; omega) | (simp; omega; done) | simp | rfl
            clear hO519
            have hgl532 := hB412.lt
            have hsz533 := hch527.size
            replace hO26 := hO26.ch hch527 (dj_sw hdj364)
            replace hRd := hRd.ch hch527 (hOut.off.le (by omega))
            replace hB412 := hB412.ch hch527 (fun hs => dj_asg hdj416 _ hs rfl)
            replace hc := hc.step hch527 (fun s hs => .inr (by have := hOut.off s hs; omega))
            have hub534 := hO526.lt
            obtain ⟨A535, c536, hv537, hcap538, hcap539⟩ := hO526.form; subst hv537
            have hdj530 : ∀ s ∈ obl (.slice A535 (xs ++ ([⟨decide ((r385 : Int) = 0), r393, (el ys (r393).toNat)⟩] : List Stp)).length c536), s ∉ obl (.slice A24 empty5.length c25) := dj_new hs528 (dj_as hdj364) (fun s hs => by have := hub4 s hs; omega)
            have hdj531 : ∀ s ∈ obl (.slice A535 (xs ++ ([⟨decide ((r385 : Int) = 0), r393, (el ys (r393).toNat)⟩] : List Stp)).length c536), s ≠ g410 := dj_newg hs528 (dj_asg hdj416) (by omega)
            refine rw_cons (op_pv (w0 rfl) rfl rfl (pv_assign (v := (.slice A535 (xs ++ ([⟨decide ((r385 : Int) = 0), r393, (el ys (r393).toNat)⟩] : List Stp)).length c536)) rfl rfl) ?_)
            refine rw_nil (hK512 _ _ ?_)
            refine hK380 _ _ ?_
            refine cw_region fun K540 hK541 => ?_
            refine rw_cons (op_pv (w0 rfl) rfl rfl (pv_move (v := (.int .i64 (k : Int))) rfl rfl) ?_)
            refine rw_cons (op_pv (w0 rfl) rfl rfl (pv_add rfl rfl rfl (by omega) (by omega)) ?_)
            refine rw_cons (op_pv (w0 rfl) rfl rfl (pv_assign (v := (.int .i64 ((k : Int) + 1))) rfl rfl) ?_)
            refine rw_nil (hK541 _ _ ?_)
            replace hRd := hRd.up (M := ((N + 1) + 1) + 5 * (k + 1)) (by omega)
            refine hK366 _ _ (k + 1, A535, c536, (xs ++ ([⟨decide ((r385 : Int) = 0), r393, (el ys (r393).toNat)⟩] : List Stp)), (ys.set (r393).toNat (el ys (r393).toNat))) ⟨rfl, (iv (by omega)), rfl, rfl, rfl, rfl, trivial⟩ ⟨?_, hO526, hO26, hRd, hc, (by omega), (dj_as hdj530)⟩ ?_
            · exact ⟨by omega, by omega, by first | omega | (simp only [List.length_set]; omega)⟩
            · show (r36 : Int).toNat - (k + 1) < (r36 : Int).toNat - k; omega
        · -- else
          replace h428 := of_decide_eq_false h428
          refine cw_skip ?_
          refine hK423 _ _ ?_
          refine cw_seq fun K542 hK543 => ?_
          refine cw_region fun K544 hK545 => ?_
          refine rw_cons (op_pv (w0 rfl) rfl rfl (pv_move (v := (.slice A24 empty5.length c25)) rfl rfl) ?_)
          refine rw_cons (op_pv (w0 rfl) rfl rfl (pv_fld F27_1 rfl rfl) ?_)
          refine rw_cons (op_lv (w0 rfl) rfl rfl (lv_load T3 rfl rfl (hB412.cellA (i := 1) rfl)) ?_)
          refine rw_cons (op_pv (w0 rfl) rfl rfl (pv_fld F27_2 rfl rfl) ?_)
          refine rw_cons (op_lv (w0 rfl) rfl rfl (lv_load T3 rfl rfl (hB412.cellA (i := 2) rfl)) ?_)
          refine rw_cons (op_pv (w0 rfl) rfl rfl (pv_idx Try.underlying42 T3 rfl rfl rfl ((hO26.rs (fun _ => rfl)).some (k := (r393).toNat) (by omega)) (by omega) (by omega)) ?_)
          refine rw_cons (op_store_ownA (k := (r393).toNat) (off := 0) r401 T3 hO26 (fun _ => rfl) (w0 rfl) rfl rfl rfl rfl rfl (one_all rfl) (by omega) (Nat.le_of_ble_eq_true rfl) rfl ?_)
          rintro w546 hO548 hch547
          have hsz549 := hch547.size
          replace hOut := hOut.ch hch547 (dj_as hdj364)
          replace hRd := hRd.ch hch547 (hO26.off.le (by omega))
          replace hB412 := hB412.ch hch547 (fun hs => dj_asg hdj417 _ hs rfl)
          replace hc := hc.step hch547 (fun s hs => .inr (by have := hO26.off s hs; omega))
          clear hO26; have hO26 := hO548; clear hO548
          refine rw_nil (hK545 _ _ ?_)
          refine hK543 _ _ ?_
          refine cw_region fun K550 hK551 => ?_
          refine rw_cons (op_pv (w0 rfl) rfl rfl (pv_move (v := (.slice Ao xs.length co)) rfl rfl) ?_)
          refine rw_cons (op_lv (w0 rfl) rfl rfl (lv_loadN T27 rfl rfl rfl (fun j v hv => hB412.cellA hv)) ?_)
          refine rw_cons (op_bslice [(.agg #[(.bool (decide ((r385 : Int) = 0))), (.int .i64 r393), (.int .i64 r401)])] Try.underlying23 T27 (w0 rfl) rfl rfl rfl rfl rfl (by simp [Value.cells]) (by decide) ?_)
          intro g553 w552 hg556 hg557 hK555 hch554
          have hO558 : Own encP 3 w552 w546.heap.size 27 (.slice (some ⟨g553, 0, none⟩) 1 1) ([⟨decide ((r385 : Int) = 0), r393, r401⟩] : List Stp) := Blk.own (xs := ([⟨decide ((r385 : Int) = 0), r393, r401⟩] : List Stp)) hK555 (by omega) rfl (by decide) rfl
          have hsz559 := hch554.size
          replace hOut := hOut.ch0 hch554
          replace hO26 := hO26.ch0 hch554
          replace hRd := hRd.ch0 hch554
          replace hB412 := hB412.ch0 hch554
          replace hc := hc.step0 hch554
          have hub560 := hO558.lt
          have hdj561 : ∀ s ∈ obl (.slice Ao xs.length co), s ∉ obl (.slice (some ⟨g553, 0, none⟩) 1 1) := fun s hs hs2 => by first | (have h1 := hubO s hs; have h2 := hO558.off s hs2; omega) | (simp [obl, Value.ownBlock] at hs; done) | (simp [obl, Value.ownBlock] at hs2; done) | (have h1 := hubO s hs; simp [obl, Value.ownBlock] at hs2; omega)
          have hdj562 : ∀ s ∈ obl (.slice A24 empty5.length c25), s ∉ obl (.slice (some ⟨g553, 0, none⟩) 1 1) := fun s hs hs2 => by first | (have h1 := hub4 s hs; have h2 := hO558.off s hs2; omega) | (simp [obl, Value.ownBlock] at hs; done) | (simp [obl, Value.ownBlock] at hs2; done) | (have h1 := hub4 s hs; simp [obl, Value.ownBlock] at hs2; omega)
          refine rw_cons (op_append Try.underlying23 T27 (fun _ => rfl) rfl (by decide) (fun _ => one_all rfl) (w0 rfl) rfl rfl rfl rfl rfl hOut (hO558.rs (fun _ => rfl)) (by unfold maxLen; first | omega | (simp; omega)) (by first | omega | (simp; omega)) (by omega) ?_)
          rintro v563 w564 hO565 hch566 hs567
          have hl568 : (xs ++ ([⟨decide ((r385 : Int) = 0), r393, r401⟩] : List Stp)).length = xs.length + 1 := by first | (have hl0 := (hO558.rs (fun _ => rfl)).len; omega) | (have hl0 := (hO558.rs (fun _ => rfl)).len; simp only [List.length_append, List.length_cons, List.length_nil] at hl0 ⊢; omega) | (simp; omega; done) | simp | rfl
          clear hO558
          have hgl571 := hB412.lt
          have hsz572 := hch566.size
          replace hO26 := hO26.ch hch566 (dj_sw hdj364)
          replace hRd := hRd.ch hch566 (hOut.off.le (by omega))
          replace hB412 := hB412.ch hch566 (fun hs => dj_asg hdj416 _ hs rfl)
          replace hc := hc.step hch566 (fun s hs => .inr (by have := hOut.off s hs; omega))
          have hub573 := hO565.lt
          obtain ⟨A574, c575, hv576, hcap577, hcap578⟩ := hO565.form; subst hv576
          have hdj569 : ∀ s ∈ obl (.slice A574 (xs ++ ([⟨decide ((r385 : Int) = 0), r393, r401⟩] : List Stp)).length c575), s ∉ obl (.slice A24 empty5.length c25) := dj_new hs567 (dj_as hdj364) (fun s hs => by have := hub4 s hs; omega)
          have hdj570 : ∀ s ∈ obl (.slice A574 (xs ++ ([⟨decide ((r385 : Int) = 0), r393, r401⟩] : List Stp)).length c575), s ≠ g410 := dj_newg hs567 (dj_asg hdj416) (by omega)
          refine rw_cons (op_pv (w0 rfl) rfl rfl (pv_assign (v := (.slice A574 (xs ++ ([⟨decide ((r385 : Int) = 0), r393, r401⟩] : List Stp)).length c575)) rfl rfl) ?_)
          refine rw_nil (hK551 _ _ ?_)
          refine hK380 _ _ ?_
          refine cw_region fun K579 hK580 => ?_
          refine rw_cons (op_pv (w0 rfl) rfl rfl (pv_move (v := (.int .i64 (k : Int))) rfl rfl) ?_)
          refine rw_cons (op_pv (w0 rfl) rfl rfl (pv_add rfl rfl rfl (by omega) (by omega)) ?_)
          refine rw_cons (op_pv (w0 rfl) rfl rfl (pv_assign (v := (.int .i64 ((k : Int) + 1))) rfl rfl) ?_)
          refine rw_nil (hK580 _ _ ?_)
          replace hRd := hRd.up (M := ((N + 1) + 1) + 5 * (k + 1)) (by omega)
          refine hK366 _ _ (k + 1, A574, c575, (xs ++ ([⟨decide ((r385 : Int) = 0), r393, r401⟩] : List Stp)), (ys.set (r393).toNat r401)) ⟨rfl, (iv (by omega)), rfl, rfl, rfl, rfl, trivial⟩ ⟨?_, hO565, hO26, hRd, hc, (by omega), (dj_as hdj569)⟩ ?_
          · exact ⟨by omega, by omega, by first | omega | (simp only [List.length_set]; omega)⟩
          · show (r36 : Int).toNat - (k + 1) < (r36 : Int).toNat - k; omega
      · -- else
        replace h378 := of_decide_eq_false h378
        refine cw_exit ?_
        refine hK357 _ _ ?_
        refine cw_seq fun K581 hK582 => ?_
        refine cw_seq fun K583 hK584 => ?_
        refine cw_region fun K585 hK586 => ?_
        refine rw_cons (op_pv (w0 rfl) rfl rfl (pv_move (v := (.int .i64 r36)) rfl rfl) ?_)
        refine rw_cons (op_pv (w0 rfl) rfl rfl (pv_gtr rfl rfl rfl) ?_)
        refine rw_cons (op_pv (w0 rfl) rfl rfl (pv_move (v := (.bool (decide (0 < r36)))) rfl rfl) ?_)
        refine rw_split 57 rfl (fun hb587 => ?_) (fun hb587 => ?_)
        · -- yes
          replace hb587 := of_decide_eq_true hb587
          refine rw_cons (op_pv (w1y rfl rfl rfl rfl) rfl rfl (pv_move (v := (.pointer (some (⟨g, 0, none⟩)))) rfl rfl) ?_)
          refine rw_cons (op_call (w1y rfl rfl rfl rfl) rfl rfl (rc_call C38 rfl rfl) (pick_ok _ _ _ _ hRd (by omega)) ?_)
          rintro _ w589 ⟨r588, rfl, hr590, hr591, hr592, hRd593, hch594⟩
          have hsz595 := hch594.size
          replace hOut := hOut.ch hch594 (fun s hs => by first | (have := hOut.off s hs; simp; omega) | (have := hubO s hs; simp; omega))
          replace hO26 := hO26.ch hch594 (fun s hs => by first | (have := hO26.off s hs; simp; omega) | (have := hub4 s hs; simp; omega))
          replace hc := hc.step hch594 (fun s hs => .inl hs)
          clear hRd; have hRd := hRd593; clear hRd593
          refine rw_cons (op_pv (w1y rfl rfl rfl rfl) rfl rfl (pv_eql rfl rfl rfl) ?_)
          refine rw_cons (op_pv (w0 rfl) rfl rfl (pv_pickT (v := (.bool (decide ((r588 : Int) = 0)))) rfl rfl rfl) ?_)
          refine rw_nil (hK586 _ _ ?_)
          refine hK584 _ _ ?_
          refine cw_cond rfl (fun h596 => ?_) (fun h596 => ?_)
          · -- then
            replace h596 := of_decide_eq_true h596
            refine cw_region fun K597 hK598 => ?_
            refine rw_cons (op_pv (w0 rfl) rfl rfl (pv_move (v := (.slice Ao xs.length co)) rfl rfl) ?_)
            refine rw_cons (op_pv (w0 rfl) rfl rfl (pv_move (v := (.pointer (some (⟨g, 0, none⟩)))) rfl rfl) ?_)
            refine rw_cons (op_pv (w0 rfl) rfl rfl (pv_move (v := (.int .i64 r36)) rfl rfl) ?_)
            refine rw_cons (op_call (w0 rfl) rfl rfl (rc_call C38 rfl rfl) (pick_ok _ _ _ _ hRd (by omega)) ?_)
            rintro _ w600 ⟨r599, rfl, hr601, hr602, hr603, hRd604, hch605⟩
            have hsz606 := hch605.size
            replace hOut := hOut.ch hch605 (fun s hs => by first | (have := hOut.off s hs; simp; omega) | (have := hubO s hs; simp; omega))
            replace hO26 := hO26.ch hch605 (fun s hs => by first | (have := hO26.off s hs; simp; omega) | (have := hub4 s hs; simp; omega))
            replace hc := hc.step hch605 (fun s hs => .inl hs)
            clear hRd; have hRd := hRd604; clear hRd604
            refine rw_cons (op_bslice [(.int .i64 (-2)), (.int .i64 (-1)), (.int .i64 100)] Try.underlying42 T3 (w0 rfl) rfl rfl rfl rfl rfl (by simp [Value.cells]) (by decide) ?_)
            intro g608 w607 hg611 hg612 hK610 hch609
            have hO613 : Own encI 1 w607 w600.heap.size 3 (.slice (some ⟨g608, 0, none⟩) 3 3) ([-2, -1, 100] : List Int) := Blk.own (xs := ([-2, -1, 100] : List Int)) hK610 (by omega) rfl (by decide) rfl
            have hsz614 := hch609.size
            replace hOut := hOut.ch0 hch609
            replace hO26 := hO26.ch0 hch609
            replace hRd := hRd.ch0 hch609
            replace hc := hc.step0 hch609
            have hub615 := hO613.lt
            have hdj616 : ∀ s ∈ obl (.slice Ao xs.length co), s ∉ obl (.slice (some ⟨g608, 0, none⟩) 3 3) := fun s hs hs2 => by first | (have h1 := hubO s hs; have h2 := hO613.off s hs2; omega) | (simp [obl, Value.ownBlock] at hs; done) | (simp [obl, Value.ownBlock] at hs2; done) | (have h1 := hubO s hs; simp [obl, Value.ownBlock] at hs2; omega)
            have hdj617 : ∀ s ∈ obl (.slice A24 empty5.length c25), s ∉ obl (.slice (some ⟨g608, 0, none⟩) 3 3) := fun s hs hs2 => by first | (have h1 := hub4 s hs; have h2 := hO613.off s hs2; omega) | (simp [obl, Value.ownBlock] at hs; done) | (simp [obl, Value.ownBlock] at hs2; done) | (have h1 := hub4 s hs; simp [obl, Value.ownBlock] at hs2; omega)
            refine rw_cons (op_pv (w0 rfl) rfl rfl (pv_move (v := (.pointer (some (⟨g, 0, none⟩)))) rfl rfl) ?_)
            refine rw_cons (op_call (w0 rfl) rfl rfl (rc_call C38 rfl rfl) (pick_ok _ _ _ _ hRd (by omega)) ?_)
            rintro _ w619 ⟨r618, rfl, hr620, hr621, hr622, hRd623, hch624⟩
            have hsz625 := hch624.size
            replace hOut := hOut.ch hch624 (fun s hs => by first | (have := hOut.off s hs; simp; omega) | (have := hubO s hs; simp; omega))
            replace hO26 := hO26.ch hch624 (fun s hs => by first | (have := hO26.off s hs; simp; omega) | (have := hub4 s hs; simp; omega))
            replace hO613 := hO613.ch hch624 (fun s hs => by first | (have := hO613.off s hs; simp; omega) | (have := hub615 s hs; simp; omega))
            replace hc := hc.step hch624 (fun s hs => .inl hs)
            clear hRd; have hRd := hRd623; clear hRd623
            refine rw_cons (op_pv (w0 rfl) rfl rfl (pv_idx Try.underlying42 T3 rfl rfl rfl ((hO613.rs (fun _ => rfl)).some (k := (r618).toNat) (by omega)) (by omega) (by omega)) ?_)
            refine rw_cons (op_lv (w0 rfl) rfl rfl (lv_load T3 rfl rfl ((hO613.rs (fun _ => rfl)).cell0 (k := (r618).toNat) (by omega) rfl)) ?_)
            refine rw_cons (op_pv (w0 rfl) rfl rfl (pv_idx Try.underlying23 T27 rfl rfl rfl ((hOut.rs (fun _ => rfl)).some (k := (r599).toNat) (by omega)) (by omega) (by omega)) ?_)
            refine rw_cons (op_pv (w0 rfl) rfl rfl (pv_fld F27_2 rfl rfl) ?_)
            refine rw_cons (op_store_ownA (k := (r599).toNat) (off := 2) (⟨(el xs (r599).toNat).r, (el xs (r599).toNat).k, (el ([-2, -1, 100] : List Int) (r618).toNat)⟩) T3 hOut (fun _ => rfl) (w0 rfl) rfl rfl rfl rfl rfl (one_all rfl) (by omega) (Nat.le_of_ble_eq_true rfl) rfl ?_)
            rintro w626 hO628 hch627
            have hsz629 := hch627.size
            replace hO26 := hO26.ch hch627 (dj_sw hdj364)
            replace hRd := hRd.ch hch627 (hOut.off.le (by omega))
            replace hO613 := hO613.ch hch627 (dj_sw hdj616)
            replace hc := hc.step hch627 (fun s hs => .inr (by have := hOut.off s hs; omega))
            clear hOut; have hOut := hO628; clear hO628
            refine rw_nil (hK598 _ _ ?_)
            refine hK582 _ _ ?_
            refine cw_seq fun K630 hK631 => ?_
            refine cw_region fun K632 hK633 => ?_
            refine rw_cons (op_pv (w0 rfl) rfl rfl (pv_move (v := (.slice Ao xs.length co)) rfl rfl) ?_)
            refine rw_cons (op_pv (w0 rfl) rfl rfl (pv_assign (v := (.slice Ao xs.length co)) rfl rfl) ?_)
            refine rw_nil (hK633 _ _ ?_)
            refine hK631 _ _ ?_
            refine cw_ret ?_
            refine fin1 rfl ?_
            exact ⟨_, _, _, (sl_as hOut rfl), own_as (hOut.less (by omega)) rfl, by first | omega | (simp only [List.length_take, List.length_set, List.length_append, List.length_cons, List.length_nil, List.length_replicate]; omega), hRd.up (by omega), hc⟩
          · -- else
            replace h596 := of_decide_eq_false h596
            refine cw_skip ?_
            refine hK582 _ _ ?_
            refine cw_seq fun K634 hK635 => ?_
            refine cw_region fun K636 hK637 => ?_
            refine rw_cons (op_pv (w0 rfl) rfl rfl (pv_move (v := (.slice Ao xs.length co)) rfl rfl) ?_)
            refine rw_cons (op_pv (w0 rfl) rfl rfl (pv_assign (v := (.slice Ao xs.length co)) rfl rfl) ?_)
            refine rw_nil (hK637 _ _ ?_)
            refine hK635 _ _ ?_
            refine cw_ret ?_
            refine fin1 rfl ?_
            exact ⟨_, _, _, (sl_as hOut rfl), own_as (hOut.less (by omega)) rfl, by first | omega | (simp only [List.length_take, List.length_set, List.length_append, List.length_cons, List.length_nil, List.length_replicate]; omega), hRd.up (by omega), hc⟩
        · -- no
          replace hb587 := of_decide_eq_false hb587
          refine rw_cons (op_pass (w1n1 rfl rfl rfl rfl) rfl rfl ?_)
          refine rw_cons (op_pass (w1n1 rfl rfl rfl rfl) rfl rfl ?_)
          refine rw_cons (op_pass (w1n1 rfl rfl rfl rfl) rfl rfl ?_)
          refine rw_cons (op_pv (w0 rfl) rfl rfl (pv_pickF (v := (.bool false)) rfl rfl rfl) ?_)
          refine rw_nil (hK586 _ _ ?_)
          refine hK584 _ _ ?_
          refine cw_cond rfl (fun h638 => ?_) (fun h638 => ?_)
          · -- then
            cases h638
          · -- else
            clear h638
            refine cw_skip ?_
            refine hK582 _ _ ?_
            refine cw_seq fun K639 hK640 => ?_
            refine cw_region fun K641 hK642 => ?_
            refine rw_cons (op_pv (w0 rfl) rfl rfl (pv_move (v := (.slice Ao xs.length co)) rfl rfl) ?_)
            refine rw_cons (op_pv (w0 rfl) rfl rfl (pv_assign (v := (.slice Ao xs.length co)) rfl rfl) ?_)
            refine rw_nil (hK642 _ _ ?_)
            refine hK640 _ _ ?_
            refine cw_ret ?_
            refine fin1 rfl ?_
            exact ⟨_, _, _, (sl_as hOut rfl), own_as (hOut.less (by omega)) rfl, by first | omega | (simp only [List.length_take, List.length_set, List.length_append, List.length_cons, List.length_nil, List.length_replicate]; omega), hRd.up (by omega), hc⟩
end Go.Proofs.Ytdnncgapbjnfoaa

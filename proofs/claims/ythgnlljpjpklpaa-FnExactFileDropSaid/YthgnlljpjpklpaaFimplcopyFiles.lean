/-
  The walk of impl.copyFiles, written by program: each line names the law of one operation. Conditions: those of the theorem.
-/
import Derived.Test.YthgnlljpjpklpaaProg
import Derived.Test.YthgnlljpjpklpaaDeep
import Derived.Test.YthgnlljpjpklpaaFlaw
import Derived.KernelRfl
namespace Go.Proofs.Ythgnlljpjpklpaa
open Go Go.RowKit
set_option linter.unusedVariables false
set_option linter.unusedSimpArgs false
namespace copyFiles_okF
theorem T3 : TI Try.prog 3 false (.int .i64 0) 1 8 := TI.mk' Try.underlying3 rfl (by kernel_rfl)
theorem T9 : TI Try.prog 9 false (.string { data := #[] }) 1 16 := TI.mk' Try.underlying9 rfl (by kernel_rfl)
theorem T25 : TI Try.prog 25 false (.slice none 0 0) 1 24 := TI.mk' Try.underlying25 rfl (by kernel_rfl)
theorem T48 : TI Try.prog 48 true (.agg #[.string { data := #[] }, .slice none 0 0]) 2 40 := TI.mk' Try.underlying48 rfl (by kernel_rfl)
theorem F48_0 : FldOK Try.prog 48 0 0 := ⟨_, _, 0, Try.underlying48, rfl, rfl, by kernel_rfl⟩
theorem F48_1 : FldOK Try.prog 48 1 1 := ⟨_, _, 0, Try.underlying48, rfl, rfl, by kernel_rfl⟩
theorem B48_0S_1SL (a0 : ByteArray) (a1 : Option Addr) (n1 c1 : Nat) (u : World) : (Instr.build 48 #[(0, .string a0), (1, .slice a1 n1 c1)]).run Try.prog u = .ok (.agg #[.string a0, .slice a1 n1 c1]) u := by kernel_rfl
end copyFiles_okF
open copyFiles_okF in
set_option maxHeartbeats 4000000 in
theorem copyFiles_ok (Ahs : Option Addr) (nhs chs : Nat) (hs : List Fl) (w : World) (hRhs : RS encF 2 w w.heap.size Ahs nhs hs) (hDhs : DX 0 w.heap.size [] w hs) (hZhs : SzOK hs) (hNhs : nhs ≤ 1099511627776) :
    Fn Try.prog 50 [(.slice Ahs nhs chs)] w fun v w' => ∃ A_0 c_0 h_0, v = .slice A_0 h_0.length c_0 ∧ Own encF 2 w' w.heap.size 48 (.slice A_0 h_0.length c_0) h_0 ∧ DOw w.heap.size w'.heap.size (obl (.slice A_0 h_0.length c_0)) 3 w' h_0 ∧ fvs h_0 = fvs hs ∧ SzOK h_0 ∧ Ch [] w w' := by
  have hlenhs := hRhs.len
  refine fn_of (n := 27) Try.func50 rfl rfl rfl rfl ?_
  have hc : Ch [] w w := Ch.refl _ _
  refine cw_seq fun K1 hK2 => ?_
  refine cw_region fun K3 hK4 => ?_
  refine rw_cons (op_pv (w0 rfl) rfl rfl (pv_assign (v := (.slice none 0 0)) rfl rfl) ?_)
  refine rw_nil (hK4 _ _ ?_)
  refine hK2 _ _ ?_
  refine cw_seq fun K5 hK6 => ?_
  refine cw_region fun K7 hK8 => ?_
  refine rw_cons (op_pv (w0 rfl) rfl rfl (pv_move (v := (.slice Ahs nhs chs)) rfl rfl) ?_)
  refine rw_cons (op_pv (w0 rfl) rfl rfl (pv_len Try.underlying24 rfl rfl) ?_)
  refine rw_cons (op_make0 (enc := encF) nhs Try.underlying24 T48 (w0 rfl) rfl rfl rfl rfl rfl (by omega) (by unfold maxLen; omega) ?_)
  rintro g10 w9 hg13 hg14 hO12 hch11
  have hsz15 := hch11.size
  replace hRhs := hRhs.ch0 hch11
  replace hDhs := hDhs.ch0 hch11
  replace hc := hc.step0 hch11
  replace hO12 := hO12.less (b := w.heap.size) (by omega)
  have hub16 := hO12.lt
  refine rw_cons (op_pv (w0 rfl) rfl rfl (pv_assign (v := (.slice (some ⟨g10, 0, none⟩) 0 nhs)) rfl rfl) ?_)
  refine rw_nil (hK8 _ _ ?_)
  refine hK6 _ _ ?_
  refine cw_seq fun K17 hK18 => ?_
  refine cw_seq fun K19 hK20 => ?_
  refine cw_region fun K21 hK22 => ?_
  refine rw_cons (op_pv (w0 rfl) rfl rfl (pv_move (v := (.slice Ahs nhs chs)) rfl rfl) ?_)
  refine rw_cons (op_pv (w0 rfl) rfl rfl (pv_len Try.underlying24 rfl rfl) ?_)
  refine rw_cons (op_pv (w0 rfl) rfl rfl (pv_move (v := (.int .i64 0)) rfl rfl) ?_)
  refine rw_nil (hK22 _ _ ?_)
  refine hK20 _ _ ?_
  refine cw_block ?_
  refine cw_loop (σ := Nat × (Option Addr) × Nat × (List Fl)) (fun ⟨k, Ao, co, ys⟩ => [(3, (.slice Ao ys.length co)), (11, (.int .i64 (k : Int))), (2, (.slice none 0 0)), (9, (.slice Ahs nhs chs)), (10, (.int .i64 (nhs : Int)))]) (fun ⟨k, Ao, co, ys⟩ W => (k ≤ nhs ∧ ys.length = k ∧ fvs ys = (fvs hs).take k ∧ SzOK ys) ∧ RS encF 2 W w.heap.size Ahs nhs hs ∧ DX 0 w.heap.size ([]) W hs ∧ Own encF 2 W w.heap.size 48 (.slice Ao ys.length co) ys ∧ DOo w.heap.size (obl (.slice Ao ys.length co)) 3 W ys ∧ Ch [] w W) (fun ⟨k, Ao, co, ys⟩ => nhs - k) (0, (some ⟨g10, 0, none⟩), nhs, []) ?_ ?_ ?_
  · exact ⟨rfl, rfl, rfl, rfl, rfl, trivial⟩
  · refine ⟨⟨Nat.zero_le _, rfl, by simp [fvs], SzOK.nil⟩, hRhs, hDhs, hO12.less (by omega), ⟨0, by omega, DOw.nil⟩, hc⟩
  · rintro ⟨k, Ao, co, ys⟩ J27 w23 ⟨⟨hk, hyl, hyv, hZy⟩, hRhs, hDhs, hO12, hDO, hc⟩ K24 hK25
    have hsz29 := hc.size
    obtain ⟨B1_30, hB131, hDO⟩ := hDO
    have hubOut := hO12.lt
    have hzk := hZhs k
    refine cw_seq fun K32 hK33 => ?_
    refine cw_region fun K34 hK35 => ?_
    refine rw_cons (op_pv (w0 rfl) rfl rfl (pv_lss rfl rfl rfl) ?_)
    refine rw_nil (hK35 _ _ ?_)
    refine hK33 _ _ ?_
    refine cw_seq fun K36 hK37 => ?_
    refine cw_cond rfl (fun h38 => ?_) (fun h38 => ?_)
    · -- then
      replace h38 := of_decide_eq_true h38
      refine cw_skip ?_
      refine hK37 _ _ ?_
      refine cw_seq fun K39 hK40 => ?_
      refine cw_block ?_
      refine cw_seq fun K41 hK42 => ?_
      refine cw_region fun K43 hK44 => ?_
      refine rw_cons (op_pv (w0 rfl) rfl rfl (pv_idx Try.underlying24 T48 rfl rfl rfl (hRhs.some (k := k) (by omega)) (by omega) (by omega)) ?_)
      have hR45 : RS encI 1 w23 w.heap.size (el hs k).A (el hs k).n (el hs k).ps := hDhs.rs (k := k) (by omega)
      have hln46 := hR45.len
      refine rw_cons (op_lv (w0 rfl) rfl rfl (lv_loadN T48 rfl rfl rfl (fun j v hv => hRhs.cellE (k := k) (by omega) hv)) ?_)
      refine rw_cons (op_alloc T48 (w0 rfl) rfl rfl rfl ?_)
      rintro g48 w47 hg51 hg52 hB50 hch49
      have hsz53 := hch49.size
      replace hRhs := hRhs.ch0 hch49
      replace hDhs := hDhs.ch0 hch49
      replace hO12 := hO12.ch0 hch49
      replace hDO := hDO.ch0 hch49
      replace hR45 := hR45.ch0 hch49
      replace hc := hc.step0 hch49
      replace hB50 : Blk w47 g48 48 [(.string ByteArray.empty), (.slice none 0 0)] := hB50
      have hdj54 : ∀ s ∈ obl (.slice Ao ys.length co), s ≠ g48 := fun s hs => by have := hubOut s hs; omega
      refine rw_cons (op_store_blk T48 hB50 (w0 rfl) rfl rfl rfl rfl rfl (one_all rfl) (Nat.le_of_ble_eq_true rfl) ?_)
      rintro w55 hB57 hch56
      have hsz58 := hch56.size
      replace hRhs := hRhs.ch hch56 (off1 (by omega))
      replace hDhs := hDhs.ch hch56 (fun s hs => by simp at hs; subst hs; first | omega | (right; left; simp; done))
      replace hO12 := hO12.ch hch56 (fun s hs => by have := dj_asg hdj54 s hs; simpa using this)
      replace hDO := hDO.ch hch56 (fun s hs => by simp at hs; subst hs; first | omega | (right; left; simp; done))
      replace hR45 := hR45.ch hch56 (off1 (by omega))
      replace hc := (off1 (by omega)).step hc hch56
      replace hB50 : Blk w55 g48 48 [(.string (el hs k).nm), (.slice (el hs k).A (el hs k).n (el hs k).c)] := hB57
      clear hB57
      refine rw_nil (hK44 _ _ ?_)
      refine hK42 _ _ ?_
      have hzk2 := hzk (by omega)
      refine cw_drawn (fun u => Ch (obl (.slice Ao ys.length co)) w55 u) (.free 0 (.free 1 (.free 2 (.free 4 (.free 5 (.one 3 true (.one 6 true (.free 7 (.one 8 true (.one 9 true (.free 10 (.done)))))))))))) (by kernel_rfl) (by kernel_rfl) (Ch.refl _ _).drew fun K62 hK63 => ?_
      obtain ⟨w59, hw_, hch60, hsz61⟩ : ∃ w1 : World, w1 = w55.drew ∧ Ch [] w55 w1 ∧ w1.heap.size = w55.heap.size := ⟨_, rfl, (Ch.refl _ _).drew, rfl⟩
      rw [← hw_]; clear hw_
      have hr64 : Ch (obl (.slice Ao ys.length co)) w55 w59 := hch60.sub (fun s hs => by cases hs)
      have hRhs_r := hRhs
      have hDhs_r := hDhs
      have hO12_r := hO12
      have hDO_r := hDO
      have hR45_r := hR45
      have hB50_r := hB50
      have hsz65 := hch60.size
      replace hRhs := hRhs.ch0 hch60
      replace hDhs := hDhs.ch0 hch60
      replace hO12 := hO12.ch0 hch60
      replace hDO := hDO.ch0 hch60
      replace hR45 := hR45.ch0 hch60
      replace hB50 := hB50.ch0 hch60
      replace hc := hc.step0 hch60
      refine tw_free rfl (w0 rfl) rfl rfl (fun u hu => (pv_move (v := (.slice Ao ys.length co)) rfl rfl : PV _ _ _ _) u) ?_
      refine tw_free rfl (w0 rfl) rfl rfl (fun u hu => (pv_fld F48_0 rfl rfl : PV _ _ _ _) u) ?_
      refine tw_free rfl (w0 rfl) rfl rfl (fun u hu => lv_load T9 rfl rfl ((hB50_r.ch hu (fun hs => dj_asg hdj54 _ hs rfl)).cellA (i := 0) rfl)) ?_
      refine tw_free rfl (w0 rfl) rfl rfl (fun u hu => (pv_fld F48_1 rfl rfl : PV _ _ _ _) u) ?_
      refine tw_free rfl (w0 rfl) rfl rfl (fun u hu => lv_load T25 rfl rfl ((hB50_r.ch hu (fun hs => dj_asg hdj54 _ hs rfl)).cellA (i := 1) rfl)) ?_
      have hgl66 := hB50.lt
      refine tw_one rfl (op_bslice [] Try.underlying25 T3 (w0 rfl) rfl rfl rfl rfl rfl (by simp [Value.cells]) (by decide) ?_)
      intro g68 w67 hg71 hg72 hK70 hch69
      have hO73 : Own encI 1 w67 w59.heap.size 3 (.slice (some ⟨g68, 0, none⟩) 0 0) ([] : List Int) := Blk.own (xs := ([] : List Int)) hK70 (by omega) rfl (by decide) rfl
      have hsz74 := hch69.size
      replace hRhs := hRhs.ch0 hch69
      replace hDhs := hDhs.ch0 hch69
      replace hO12 := hO12.ch0 hch69
      replace hDO := hDO.ch0 hch69
      replace hR45 := hR45.ch0 hch69
      replace hB50 := hB50.ch0 hch69
      replace hc := hc.step0 hch69
      replace hr64 := hr64.step0 hch69
      have hub75 := hO73.lt
      refine ⟨fun _ => hr64, ?_⟩
      have hdj76 : ∀ s ∈ obl (.slice (some ⟨g68, 0, none⟩) 0 0), s ≠ g48 := fun s hs => by first | (have h1 := hO73.off s hs; omega) | (simp [obl, Value.ownBlock] at hs; done) | (simp [obl, Value.ownBlock] at hs; omega)
      have hdj77 : ∀ s ∈ obl (.slice Ao ys.length co), s ∉ obl (.slice (some ⟨g68, 0, none⟩) 0 0) := fun s hs hs2 => by first | (have h1 := hubOut s hs; have h2 := hO73.off s hs2; omega) | (simp [obl, Value.ownBlock] at hs; done) | (simp [obl, Value.ownBlock] at hs2; done) | (have h1 := hubOut s hs; simp [obl, Value.ownBlock] at hs2; omega)
      refine tw_one rfl (op_append Try.underlying25 T3 (fun _ => rfl) rfl (by decide) (fun _ => one_all rfl) (w0 rfl) rfl rfl rfl rfl rfl hO73 hR45 (by unfold maxLen; first | omega | (simp; omega)) (by first | omega | (simp; omega)) (by omega) ?_)
      rintro v78 w79 hO80 hch81 hs82
      replace hO80 : Own encI 1 w79 w59.heap.size 3 v78 (el hs k).ps := hO80
      have hl83 : (el hs k).ps.length = 0 + (el hs k).n := by first | (have hl0 := hR45.len; omega) | (have hl0 := hR45.len; simp only [List.length_append, List.length_cons, List.length_nil] at hl0 ⊢; omega) | (simp; omega; done) | simp | rfl
      have hgl85 := hB50.lt
      have hsz87 := hch81.size
      replace hRhs := hRhs.ch hch81 (hO73.off.le (by omega))
      replace hDhs := hDhs.ch hch81 (fun s hs => by first | exact .inr (.inl hs) | exact .inr (.inl (obl_any hs)) | exact .inr (.inr (Nat.le_trans (by omega) (hO73.off s hs))) | exact .inl (Nat.lt_of_lt_of_le (hub75 s hs) (by omega)))
      replace hO12 := hO12.ch hch81 (dj_as hdj77)
      replace hDO := hDO.ch hch81 (fun s hs => by first | exact .inr (.inl hs) | exact .inr (.inl (obl_any hs)) | exact .inr (.inr (Nat.le_trans (by omega) (hO73.off s hs))) | exact .inl (Nat.lt_of_lt_of_le (hub75 s hs) (by omega)))
      replace hR45 := hR45.ch hch81 (hO73.off.le (by omega))
      replace hB50 := hB50.ch hch81 (fun hs => dj_asg hdj76 _ hs rfl)
      replace hc := (hO73.off.le (by omega)).step hc hch81
      replace hr64 := hr64.step hch81 (fun s hs => .inr (Nat.le_trans (by omega) (hO73.off s hs)))
      have hub88 := hO80.lt
      obtain ⟨A89, c90, hv91, hcap92, hcap93⟩ := hO80.form; subst hv91
      have hdj84 : ∀ s ∈ obl (.slice A89 (el hs k).ps.length c90), s ≠ g48 := dj_newg hs82 (dj_asg hdj76) (by omega)
      have hdj86 : ∀ s ∈ obl (.slice A89 (el hs k).ps.length c90), s ∉ obl (.slice Ao ys.length co) := dj_new hs82 (dj_sw hdj77) (fun s hs => by have := hubOut s hs; omega)
      refine ⟨fun _ => hr64, ?_⟩
      refine tw_free rfl (w0 rfl) rfl rfl (fun u hu => (pv_build rfl rfl (B48_0S_1SL _ _ _ _) : PV _ _ _ _) u) ?_
      have hgl94 := hB50.lt
      refine tw_one rfl (op_bslice [(.agg #[(.string (el hs k).nm), (.slice A89 (el hs k).ps.length c90)])] Try.underlying24 T48 (w0 rfl) rfl rfl rfl rfl rfl (by simp [Value.cells]) (by decide) ?_)
      intro g96 w95 hg99 hg100 hK98 hch97
      have hO101 : Own encF 2 w95 w79.heap.size 48 (.slice (some ⟨g96, 0, none⟩) 1 1) ([⟨(el hs k).nm, A89, (el hs k).ps.length, c90, (el hs k).ps⟩] : List Fl) := Blk.own (xs := ([⟨(el hs k).nm, A89, (el hs k).ps.length, c90, (el hs k).ps⟩] : List Fl)) hK98 (by omega) rfl (by decide) rfl
      have hsz102 := hch97.size
      replace hRhs := hRhs.ch0 hch97
      replace hDhs := hDhs.ch0 hch97
      replace hO12 := hO12.ch0 hch97
      replace hDO := hDO.ch0 hch97
      replace hR45 := hR45.ch0 hch97
      replace hB50 := hB50.ch0 hch97
      replace hO80 := hO80.ch0 hch97
      replace hc := hc.step0 hch97
      replace hr64 := hr64.step0 hch97
      have hub103 := hO101.lt
      refine ⟨fun _ => hr64, ?_⟩
      have hdj104 : ∀ s ∈ obl (.slice (some ⟨g96, 0, none⟩) 1 1), s ≠ g48 := fun s hs => by first | (have h1 := hO101.off s hs; omega) | (simp [obl, Value.ownBlock] at hs; done) | (simp [obl, Value.ownBlock] at hs; omega)
      have hdj105 : ∀ s ∈ obl (.slice Ao ys.length co), s ∉ obl (.slice (some ⟨g96, 0, none⟩) 1 1) := fun s hs hs2 => by first | (have h1 := hubOut s hs; have h2 := hO101.off s hs2; omega) | (simp [obl, Value.ownBlock] at hs; done) | (simp [obl, Value.ownBlock] at hs2; done) | (have h1 := hubOut s hs; simp [obl, Value.ownBlock] at hs2; omega)
      have hdj106 : ∀ s ∈ obl (.slice A89 (el hs k).ps.length c90), s ∉ obl (.slice (some ⟨g96, 0, none⟩) 1 1) := fun s hs hs2 => by first | (have h1 := hub88 s hs; have h2 := hO101.off s hs2; omega) | (simp [obl, Value.ownBlock] at hs; done) | (simp [obl, Value.ownBlock] at hs2; done) | (have h1 := hub88 s hs; simp [obl, Value.ownBlock] at hs2; omega)
      refine tw_one rfl (op_append Try.underlying24 T48 (fun _ => rfl) rfl (by decide) (fun _ => one_all rfl) (w0 rfl) rfl rfl rfl rfl rfl hO12 (hO101.rs (fun _ => rfl)) (by unfold maxLen; first | omega | (simp; omega)) (by first | omega | (simp; omega)) (by omega) ?_)
      rintro v107 w108 hO109 hch110 hs111
      have hl112 : (ys ++ ([⟨(el hs k).nm, A89, (el hs k).ps.length, c90, (el hs k).ps⟩] : List Fl)).length = ys.length + 1 := by first | (have hl0 := (hO101.rs (fun _ => rfl)).len; omega) | (have hl0 := (hO101.rs (fun _ => rfl)).len; simp only [List.length_append, List.length_cons, List.length_nil] at hl0 ⊢; omega) | (simp; omega; done) | simp | rfl
      clear hO101
      have hgl114 := hB50.lt
      have hsz116 := hch110.size
      replace hRhs := hRhs.ch hch110 (hO12.off.le (by omega))
      replace hDhs := hDhs.ch hch110 (fun s hs => by first | exact .inr (.inl hs) | exact .inr (.inl (obl_any hs)) | exact .inr (.inr (Nat.le_trans (by omega) (hO12.off s hs))) | exact .inl (Nat.lt_of_lt_of_le (hubOut s hs) (by omega)))
      replace hDO := hDO.ch hch110 (fun s hs => by first | exact .inr (.inl hs) | exact .inr (.inl (obl_any hs)) | exact .inr (.inr (Nat.le_trans (by omega) (hO12.off s hs))) | exact .inl (Nat.lt_of_lt_of_le (hubOut s hs) (by omega)))
      replace hR45 := hR45.ch hch110 (hO12.off.le (by omega))
      replace hB50 := hB50.ch hch110 (fun hs => dj_asg hdj54 _ hs rfl)
      replace hO80 := hO80.ch hch110 (dj_as hdj86)
      replace hc := (hO12.off.le (by omega)).step hc hch110
      replace hr64 := hr64.step hch110 (fun s hs => .inl hs)
      have hub117 := hO109.lt
      obtain ⟨A118, c119, hv120, hcap121, hcap122⟩ := hO109.form; subst hv120
      have hdj113 : ∀ s ∈ obl (.slice A118 (ys ++ ([⟨(el hs k).nm, A89, (el hs k).ps.length, c90, (el hs k).ps⟩] : List Fl)).length c119), s ≠ g48 := dj_newg hs111 (dj_asg hdj54) (by omega)
      have hdj115 : ∀ s ∈ obl (.slice A118 (ys ++ ([⟨(el hs k).nm, A89, (el hs k).ps.length, c90, (el hs k).ps⟩] : List Fl)).length c119), s ∉ obl (.slice A89 (el hs k).ps.length c90) := dj_new hs111 (dj_sw hdj86) (fun s hs => by have := hub88 s hs; omega)
      refine ⟨fun _ => hr64, ?_⟩
      refine tw_free rfl (w0 rfl) rfl rfl (fun u hu => (pv_assign (v := (.slice A118 (ys ++ ([⟨(el hs k).nm, A89, (el hs k).ps.length, c90, (el hs k).ps⟩] : List Fl)).length c119)) rfl rfl : PV _ _ _ _) u) ?_
      try clear hB50_r
      try clear hDO_r
      try clear hDhs_r
      try clear hO12_r
      try clear hR45_r
      try clear hRhs_r
      refine tw_done (hK63 _ _ ?_)
      refine hK40 _ _ ?_
      refine cw_region fun K123 hK124 => ?_
      refine rw_cons (op_pv (w0 rfl) rfl rfl (pv_add rfl rfl rfl (by omega) (by omega)) ?_)
      refine rw_cons (op_pv (w0 rfl) rfl rfl (pv_move (v := (.int .i64 ((k : Int) + 1))) rfl rfl) ?_)
      refine rw_nil (hK124 _ _ ?_)
      have hDO9 : DOo w.heap.size (obl (.slice A118 (ys ++ ([⟨(el hs k).nm, A89, (el hs k).ps.length, c90, (el hs k).ps⟩] : List Fl)).length c119)) 3 w108 (ys ++ ([⟨(el hs k).nm, A89, (el hs k).ps.length, c90, (el hs k).ps⟩] : List Fl)) := ⟨w108.heap.size, Nat.le_refl _, (hDO.rex (fun s h => (hs111 s h).imp id (fun h => by omega))).snocN _ hO80 (by omega) (by omega) (by omega) (by omega) (dj_sw hdj115)⟩
      refine hK25 _ _ (k + 1, A118, c119, (ys ++ ([⟨(el hs k).nm, A89, (el hs k).ps.length, c90, (el hs k).ps⟩] : List Fl))) ⟨rfl, (iv (by omega)), rfl, rfl, rfl, trivial⟩ ⟨?_, hRhs, hDhs, hO109, hDO9, hc⟩ ?_
      · exact ⟨by omega, by simp; omega, fvs_snoc (by omega) hyv rfl, hZy.app (SzOK.one (by dsimp only; omega) (by dsimp only; omega))⟩
      · (first | omega | (simp only []; omega))
    · -- else
      replace h38 := of_decide_eq_false h38
      refine cw_exit ?_
      refine hK18 _ _ ?_
      refine cw_seq fun K125 hK126 => ?_
      refine cw_region fun K127 hK128 => ?_
      refine rw_cons (op_pv (w0 rfl) rfl rfl (pv_move (v := (.slice Ao ys.length co)) rfl rfl) ?_)
      refine rw_cons (op_pv (w0 rfl) rfl rfl (pv_assign (v := (.slice Ao ys.length co)) rfl rfl) ?_)
      refine rw_nil (hK128 _ _ ?_)
      refine hK126 _ _ ?_
      refine cw_ret ?_
      refine fin1 rfl ?_
      have he_0 : fvs ys = fvs hs := by rw [hyv]; exact el_take_all _ _ (by rw [fvs_len]; omega)
      exact ⟨_, _, ys, (sl_as hO12 rfl), own_as (xs := ys) (hO12.less (by omega)) rfl, (hDO.as (by omega) (by omega)), he_0, (by first | assumption | exact SzOK.nil), hc⟩
end Go.Proofs.Ythgnlljpjpklpaa

/-
  The walk of spec.l21Copy, written by program: each line names the law of one operation. Conditions: those of the theorem.
-/
import Derived.Test.YthgnlljpjpklpaaProg
import Derived.Test.YthgnlljpjpklpaaDeep
import Derived.Test.YthgnlljpjpklpaaFlaw
import Derived.KernelRfl
namespace Go.Proofs.Ythgnlljpjpklpaa
open Go Go.RowKit
set_option linter.unusedVariables false
set_option linter.unusedSimpArgs false
namespace l21Copy_okF
theorem T3 : TI Try.prog 3 false (.int .i64 0) 1 8 := TI.mk' Try.underlying3 rfl (by kernel_rfl)
theorem T9 : TI Try.prog 9 false (.string { data := #[] }) 1 16 := TI.mk' Try.underlying9 rfl (by kernel_rfl)
theorem T25 : TI Try.prog 25 false (.slice none 0 0) 1 24 := TI.mk' Try.underlying25 rfl (by kernel_rfl)
theorem T48 : TI Try.prog 48 true (.agg #[.string { data := #[] }, .slice none 0 0]) 2 40 := TI.mk' Try.underlying48 rfl (by kernel_rfl)
theorem F48_0 : FldOK Try.prog 48 0 0 := ⟨_, _, 0, Try.underlying48, rfl, rfl, by kernel_rfl⟩
theorem F48_1 : FldOK Try.prog 48 1 1 := ⟨_, _, 0, Try.underlying48, rfl, rfl, by kernel_rfl⟩
theorem B48_0S_1SL (a0 : ByteArray) (a1 : Option Addr) (n1 c1 : Nat) (u : World) : (Instr.build 48 #[(0, .string a0), (1, .slice a1 n1 c1)]).run Try.prog u = .ok (.agg #[.string a0, .slice a1 n1 c1]) u := by kernel_rfl
end l21Copy_okF
open l21Copy_okF in
set_option maxHeartbeats 4000000 in
theorem l21Copy_ok (Ahs : Option Addr) (nhs chs : Nat) (hs : List Fl) (w : World) (hRhs : RS encF 2 w w.heap.size Ahs nhs hs) (hDhs : DX 0 w.heap.size [] w hs) (hZhs : SzOK hs) (hNhs : nhs ≤ 1099511627776) :
    Fn Try.prog 47 [(.slice Ahs nhs chs)] w fun v w' => ∃ A_0 c_0 h_0, v = .slice A_0 h_0.length c_0 ∧ Own encF 2 w' w.heap.size 48 (.slice A_0 h_0.length c_0) h_0 ∧ DOw w.heap.size w'.heap.size (obl (.slice A_0 h_0.length c_0)) 3 w' h_0 ∧ fvs h_0 = fvs hs ∧ SzOK h_0 ∧ Ch [] w w' := by
  have hlenhs := hRhs.len
  refine fn_of (n := 29) Try.func47 rfl rfl rfl rfl ?_
  have hc : Ch [] w w := Ch.refl _ _
  refine cw_seq fun K1 hK2 => ?_
  refine cw_region fun K3 hK4 => ?_
  refine rw_cons (op_pv (w0 rfl) rfl rfl (pv_assign (v := (.slice none 0 0)) rfl rfl) ?_)
  refine rw_nil (hK4 _ _ ?_)
  refine hK2 _ _ ?_
  refine cw_seq fun K5 hK6 => ?_
  refine cw_region fun K7 hK8 => ?_
  refine rw_cons (op_bslice [] Try.underlying24 T48 (w0 rfl) rfl rfl rfl rfl rfl (by simp [Value.cells]) (by decide) ?_)
  intro g10 w9 hg13 hg14 hK12 hch11
  have hO15 : Own encF 2 w9 w.heap.size 48 (.slice (some ⟨g10, 0, none⟩) 0 0) ([] : List Fl) := Blk.own (xs := ([] : List Fl)) hK12 (by omega) rfl (by decide) rfl
  have hsz16 := hch11.size
  replace hRhs := hRhs.ch0 hch11
  replace hDhs := hDhs.ch0 hch11
  replace hc := hc.step0 hch11
  have hub17 := hO15.lt
  refine rw_cons (op_pv (w0 rfl) rfl rfl (pv_assign (v := (.slice (some ⟨g10, 0, none⟩) 0 0)) rfl rfl) ?_)
  refine rw_nil (hK8 _ _ ?_)
  refine hK6 _ _ ?_
  refine cw_seq fun K18 hK19 => ?_
  refine cw_seq fun K20 hK21 => ?_
  refine cw_region fun K22 hK23 => ?_
  refine rw_cons (op_pv (w0 rfl) rfl rfl (pv_assign (v := (.int .i64 0)) rfl rfl) ?_)
  refine rw_nil (hK23 _ _ ?_)
  refine hK21 _ _ ?_
  refine cw_block ?_
  refine cw_loop (σ := Nat × (Option Addr) × Nat × (List Fl)) (fun ⟨k, Ao, co, ys⟩ => [(3, (.slice Ao ys.length co)), (4, (.int .i64 (k : Int))), (0, (.slice Ahs nhs chs)), (2, (.slice none 0 0))]) (fun ⟨k, Ao, co, ys⟩ W => (k ≤ nhs ∧ ys.length = k ∧ fvs ys = (fvs hs).take k ∧ SzOK ys) ∧ RS encF 2 W w.heap.size Ahs nhs hs ∧ DX 0 w.heap.size ([]) W hs ∧ Own encF 2 W w.heap.size 48 (.slice Ao ys.length co) ys ∧ DOo w.heap.size (obl (.slice Ao ys.length co)) 3 W ys ∧ Ch [] w W) (fun ⟨k, Ao, co, ys⟩ => nhs - k) (0, (some ⟨g10, 0, none⟩), 0, []) ?_ ?_ ?_
  · exact ⟨rfl, rfl, rfl, rfl, trivial⟩
  · refine ⟨⟨Nat.zero_le _, rfl, by simp [fvs], SzOK.nil⟩, hRhs, hDhs, hO15.less (by omega), ⟨0, by omega, DOw.nil⟩, hc⟩
  · rintro ⟨k, Ao, co, ys⟩ J28 w24 ⟨⟨hk, hyl, hyv, hZy⟩, hRhs, hDhs, hO15, hDO, hc⟩ K25 hK26
    have hsz30 := hc.size
    obtain ⟨B1_31, hB132, hDO⟩ := hDO
    have hubOut := hO15.lt
    have hzk := hZhs k
    refine cw_seq fun K33 hK34 => ?_
    refine cw_seq fun K35 hK36 => ?_
    refine cw_region fun K37 hK38 => ?_
    refine rw_cons (op_pv (w0 rfl) rfl rfl (pv_move (v := (.int .i64 (k : Int))) rfl rfl) ?_)
    refine rw_cons (op_pv (w0 rfl) rfl rfl (pv_move (v := (.slice Ahs nhs chs)) rfl rfl) ?_)
    refine rw_cons (op_pv (w0 rfl) rfl rfl (pv_len Try.underlying24 rfl rfl) ?_)
    refine rw_cons (op_pv (w0 rfl) rfl rfl (pv_lss rfl rfl rfl) ?_)
    refine rw_nil (hK38 _ _ ?_)
    refine hK36 _ _ ?_
    refine cw_cond rfl (fun h39 => ?_) (fun h39 => ?_)
    · -- then
      replace h39 := of_decide_eq_true h39
      refine cw_skip ?_
      refine hK34 _ _ ?_
      refine cw_seq fun K40 hK41 => ?_
      refine cw_block ?_
      have hzk2 := hzk (by omega)
      refine cw_drawn (fun u => Ch (obl (.slice Ao ys.length co)) w24 u) (.free 0 (.free 1 (.free 2 (.free 3 (.free 4 (.free 5 (.free 7 (.free 8 (.free 9 (.free 10 (.free 11 (.one 6 true (.one 12 true (.free 13 (.one 14 true (.one 15 true (.free 16 (.done)))))))))))))))))) (by kernel_rfl) (by kernel_rfl) (Ch.refl _ _).drew fun K45 hK46 => ?_
      obtain ⟨w42, hw_, hch43, hsz44⟩ : ∃ w1 : World, w1 = w24.drew ∧ Ch [] w24 w1 ∧ w1.heap.size = w24.heap.size := ⟨_, rfl, (Ch.refl _ _).drew, rfl⟩
      rw [← hw_]; clear hw_
      have hr47 : Ch (obl (.slice Ao ys.length co)) w24 w42 := hch43.sub (fun s hs => by cases hs)
      have hRhs_r := hRhs
      have hDhs_r := hDhs
      have hO15_r := hO15
      have hDO_r := hDO
      have hsz48 := hch43.size
      replace hRhs := hRhs.ch0 hch43
      replace hDhs := hDhs.ch0 hch43
      replace hO15 := hO15.ch0 hch43
      replace hDO := hDO.ch0 hch43
      replace hc := hc.step0 hch43
      refine tw_free rfl (w0 rfl) rfl rfl (fun u hu => (pv_move (v := (.slice Ao ys.length co)) rfl rfl : PV _ _ _ _) u) ?_
      refine tw_free rfl (w0 rfl) rfl rfl (fun u hu => (pv_move (v := (.slice Ahs nhs chs)) rfl rfl : PV _ _ _ _) u) ?_
      refine tw_free rfl (w0 rfl) rfl rfl (fun u hu => (pv_move (v := (.int .i64 (k : Int))) rfl rfl : PV _ _ _ _) u) ?_
      refine tw_free rfl (w0 rfl) rfl rfl (fun u hu => (pv_idx Try.underlying24 T48 rfl rfl rfl (hRhs.some (k := k) (by omega)) (by omega) (by omega) : PV _ _ _ _) u) ?_
      refine tw_free rfl (w0 rfl) rfl rfl (fun u hu => (pv_fld F48_0 rfl rfl : PV _ _ _ _) u) ?_
      refine tw_free rfl (w0 rfl) rfl rfl (fun u hu => lv_load T9 rfl rfl ((hRhs_r.ch hu (hO15_r.off.le (by omega))).cellE (k := k) (j := 0) (by omega) rfl)) ?_
      have hR49 : RS encI 1 w42 w.heap.size (el hs k).A (el hs k).n (el hs k).ps := hDhs.rs (k := k) (by omega)
      have hR49_r : RS encI 1 w24 w.heap.size (el hs k).A (el hs k).n (el hs k).ps := hDhs_r.rs (k := k) (by omega)
      have hln50 := hR49.len
      refine tw_free rfl (w0 rfl) rfl rfl (fun u hu => (pv_move (v := (.slice Ahs nhs chs)) rfl rfl : PV _ _ _ _) u) ?_
      refine tw_free rfl (w0 rfl) rfl rfl (fun u hu => (pv_move (v := (.int .i64 (k : Int))) rfl rfl : PV _ _ _ _) u) ?_
      refine tw_free rfl (w0 rfl) rfl rfl (fun u hu => (pv_idx Try.underlying24 T48 rfl rfl rfl (hRhs.some (k := k) (by omega)) (by omega) (by omega) : PV _ _ _ _) u) ?_
      refine tw_free rfl (w0 rfl) rfl rfl (fun u hu => (pv_fld F48_1 rfl rfl : PV _ _ _ _) u) ?_
      refine tw_free rfl (w0 rfl) rfl rfl (fun u hu => lv_load T25 rfl rfl ((hRhs_r.ch hu (hO15_r.off.le (by omega))).cellE (k := k) (j := 1) (by omega) rfl)) ?_
      have hR51 : RS encI 1 w42 w.heap.size (el hs k).A (el hs k).n (el hs k).ps := hDhs.rs (k := k) (by omega)
      have hR51_r : RS encI 1 w24 w.heap.size (el hs k).A (el hs k).n (el hs k).ps := hDhs_r.rs (k := k) (by omega)
      have hln52 := hR51.len
      refine tw_one rfl (op_bslice [] Try.underlying25 T3 (w0 rfl) rfl rfl rfl rfl rfl (by simp [Value.cells]) (by decide) ?_)
      intro g54 w53 hg57 hg58 hK56 hch55
      have hO59 : Own encI 1 w53 w42.heap.size 3 (.slice (some ⟨g54, 0, none⟩) 0 0) ([] : List Int) := Blk.own (xs := ([] : List Int)) hK56 (by omega) rfl (by decide) rfl
      have hsz60 := hch55.size
      replace hRhs := hRhs.ch0 hch55
      replace hDhs := hDhs.ch0 hch55
      replace hO15 := hO15.ch0 hch55
      replace hDO := hDO.ch0 hch55
      replace hR49 := hR49.ch0 hch55
      replace hR51 := hR51.ch0 hch55
      replace hc := hc.step0 hch55
      replace hr47 := hr47.step0 hch55
      have hub61 := hO59.lt
      refine ⟨fun _ => hr47, ?_⟩
      have hdj62 : ∀ s ∈ obl (.slice Ao ys.length co), s ∉ obl (.slice (some ⟨g54, 0, none⟩) 0 0) := fun s hs hs2 => by first | (have h1 := hubOut s hs; have h2 := hO59.off s hs2; omega) | (simp [obl, Value.ownBlock] at hs; done) | (simp [obl, Value.ownBlock] at hs2; done) | (have h1 := hubOut s hs; simp [obl, Value.ownBlock] at hs2; omega)
      refine tw_one rfl (op_append Try.underlying25 T3 (fun _ => rfl) rfl (by decide) (fun _ => one_all rfl) (w0 rfl) rfl rfl rfl rfl rfl hO59 hR51 (by unfold maxLen; first | omega | (simp; omega)) (by first | omega | (simp; omega)) (by omega) ?_)
      rintro v63 w64 hO65 hch66 hs67
      replace hO65 : Own encI 1 w64 w42.heap.size 3 v63 (el hs k).ps := hO65
      have hl68 : (el hs k).ps.length = 0 + (el hs k).n := by first | (have hl0 := hR51.len; omega) | (have hl0 := hR51.len; simp only [List.length_append, List.length_cons, List.length_nil] at hl0 ⊢; omega) | (simp; omega; done) | simp | rfl
      have hsz70 := hch66.size
      replace hRhs := hRhs.ch hch66 (hO59.off.le (by omega))
      replace hDhs := hDhs.ch hch66 (fun s hs => by first | exact .inr (.inl hs) | exact .inr (.inl (obl_any hs)) | exact .inr (.inr (Nat.le_trans (by omega) (hO59.off s hs))) | exact .inl (Nat.lt_of_lt_of_le (hub61 s hs) (by omega)))
      replace hO15 := hO15.ch hch66 (dj_as hdj62)
      replace hDO := hDO.ch hch66 (fun s hs => by first | exact .inr (.inl hs) | exact .inr (.inl (obl_any hs)) | exact .inr (.inr (Nat.le_trans (by omega) (hO59.off s hs))) | exact .inl (Nat.lt_of_lt_of_le (hub61 s hs) (by omega)))
      replace hR49 := hR49.ch hch66 (hO59.off.le (by omega))
      replace hR51 := hR51.ch hch66 (hO59.off.le (by omega))
      replace hc := (hO59.off.le (by omega)).step hc hch66
      replace hr47 := hr47.step hch66 (fun s hs => .inr (Nat.le_trans (by omega) (hO59.off s hs)))
      have hub71 := hO65.lt
      obtain ⟨A72, c73, hv74, hcap75, hcap76⟩ := hO65.form; subst hv74
      have hdj69 : ∀ s ∈ obl (.slice A72 (el hs k).ps.length c73), s ∉ obl (.slice Ao ys.length co) := dj_new hs67 (dj_sw hdj62) (fun s hs => by have := hubOut s hs; omega)
      refine ⟨fun _ => hr47, ?_⟩
      refine tw_free rfl (w0 rfl) rfl rfl (fun u hu => (pv_build rfl rfl (B48_0S_1SL _ _ _ _) : PV _ _ _ _) u) ?_
      refine tw_one rfl (op_bslice [(.agg #[(.string (el hs k).nm), (.slice A72 (el hs k).ps.length c73)])] Try.underlying24 T48 (w0 rfl) rfl rfl rfl rfl rfl (by simp [Value.cells]) (by decide) ?_)
      intro g78 w77 hg81 hg82 hK80 hch79
      have hO83 : Own encF 2 w77 w64.heap.size 48 (.slice (some ⟨g78, 0, none⟩) 1 1) ([⟨(el hs k).nm, A72, (el hs k).ps.length, c73, (el hs k).ps⟩] : List Fl) := Blk.own (xs := ([⟨(el hs k).nm, A72, (el hs k).ps.length, c73, (el hs k).ps⟩] : List Fl)) hK80 (by omega) rfl (by decide) rfl
      have hsz84 := hch79.size
      replace hRhs := hRhs.ch0 hch79
      replace hDhs := hDhs.ch0 hch79
      replace hO15 := hO15.ch0 hch79
      replace hDO := hDO.ch0 hch79
      replace hR49 := hR49.ch0 hch79
      replace hR51 := hR51.ch0 hch79
      replace hO65 := hO65.ch0 hch79
      replace hc := hc.step0 hch79
      replace hr47 := hr47.step0 hch79
      have hub85 := hO83.lt
      refine ⟨fun _ => hr47, ?_⟩
      have hdj86 : ∀ s ∈ obl (.slice Ao ys.length co), s ∉ obl (.slice (some ⟨g78, 0, none⟩) 1 1) := fun s hs hs2 => by first | (have h1 := hubOut s hs; have h2 := hO83.off s hs2; omega) | (simp [obl, Value.ownBlock] at hs; done) | (simp [obl, Value.ownBlock] at hs2; done) | (have h1 := hubOut s hs; simp [obl, Value.ownBlock] at hs2; omega)
      have hdj87 : ∀ s ∈ obl (.slice A72 (el hs k).ps.length c73), s ∉ obl (.slice (some ⟨g78, 0, none⟩) 1 1) := fun s hs hs2 => by first | (have h1 := hub71 s hs; have h2 := hO83.off s hs2; omega) | (simp [obl, Value.ownBlock] at hs; done) | (simp [obl, Value.ownBlock] at hs2; done) | (have h1 := hub71 s hs; simp [obl, Value.ownBlock] at hs2; omega)
      refine tw_one rfl (op_append Try.underlying24 T48 (fun _ => rfl) rfl (by decide) (fun _ => one_all rfl) (w0 rfl) rfl rfl rfl rfl rfl hO15 (hO83.rs (fun _ => rfl)) (by unfold maxLen; first | omega | (simp; omega)) (by first | omega | (simp; omega)) (by omega) ?_)
      rintro v88 w89 hO90 hch91 hs92
      have hl93 : (ys ++ ([⟨(el hs k).nm, A72, (el hs k).ps.length, c73, (el hs k).ps⟩] : List Fl)).length = ys.length + 1 := by first | (have hl0 := (hO83.rs (fun _ => rfl)).len; omega) | (have hl0 := (hO83.rs (fun _ => rfl)).len; simp only [List.length_append, List.length_cons, List.length_nil] at hl0 ⊢; omega) | (simp; omega; done) | simp | rfl
      clear hO83
      have hsz95 := hch91.size
      replace hRhs := hRhs.ch hch91 (hO15.off.le (by omega))
      replace hDhs := hDhs.ch hch91 (fun s hs => by first | exact .inr (.inl hs) | exact .inr (.inl (obl_any hs)) | exact .inr (.inr (Nat.le_trans (by omega) (hO15.off s hs))) | exact .inl (Nat.lt_of_lt_of_le (hubOut s hs) (by omega)))
      replace hDO := hDO.ch hch91 (fun s hs => by first | exact .inr (.inl hs) | exact .inr (.inl (obl_any hs)) | exact .inr (.inr (Nat.le_trans (by omega) (hO15.off s hs))) | exact .inl (Nat.lt_of_lt_of_le (hubOut s hs) (by omega)))
      replace hR49 := hR49.ch hch91 (hO15.off.le (by omega))
      replace hR51 := hR51.ch hch91 (hO15.off.le (by omega))
      replace hO65 := hO65.ch hch91 (dj_as hdj69)
      replace hc := (hO15.off.le (by omega)).step hc hch91
      replace hr47 := hr47.step hch91 (fun s hs => .inl hs)
      have hub96 := hO90.lt
      obtain ⟨A97, c98, hv99, hcap100, hcap101⟩ := hO90.form; subst hv99
      have hdj94 : ∀ s ∈ obl (.slice A97 (ys ++ ([⟨(el hs k).nm, A72, (el hs k).ps.length, c73, (el hs k).ps⟩] : List Fl)).length c98), s ∉ obl (.slice A72 (el hs k).ps.length c73) := dj_new hs92 (dj_sw hdj69) (fun s hs => by have := hub71 s hs; omega)
      refine ⟨fun _ => hr47, ?_⟩
      refine tw_free rfl (w0 rfl) rfl rfl (fun u hu => (pv_assign (v := (.slice A97 (ys ++ ([⟨(el hs k).nm, A72, (el hs k).ps.length, c73, (el hs k).ps⟩] : List Fl)).length c98)) rfl rfl : PV _ _ _ _) u) ?_
      try clear hDO_r
      try clear hDhs_r
      try clear hO15_r
      try clear hR49_r
      try clear hR51_r
      try clear hRhs_r
      refine tw_done (hK46 _ _ ?_)
      refine hK41 _ _ ?_
      refine cw_region fun K102 hK103 => ?_
      refine rw_cons (op_pv (w0 rfl) rfl rfl (pv_move (v := (.int .i64 (k : Int))) rfl rfl) ?_)
      refine rw_cons (op_pv (w0 rfl) rfl rfl (pv_add rfl rfl rfl (by omega) (by omega)) ?_)
      refine rw_cons (op_pv (w0 rfl) rfl rfl (pv_assign (v := (.int .i64 ((k : Int) + 1))) rfl rfl) ?_)
      refine rw_nil (hK103 _ _ ?_)
      have hDO9 : DOo w.heap.size (obl (.slice A97 (ys ++ ([⟨(el hs k).nm, A72, (el hs k).ps.length, c73, (el hs k).ps⟩] : List Fl)).length c98)) 3 w89 (ys ++ ([⟨(el hs k).nm, A72, (el hs k).ps.length, c73, (el hs k).ps⟩] : List Fl)) := ⟨w89.heap.size, Nat.le_refl _, (hDO.rex (fun s h => (hs92 s h).imp id (fun h => by omega))).snocN _ hO65 (by omega) (by omega) (by omega) (by omega) (dj_sw hdj94)⟩
      refine hK26 _ _ (k + 1, A97, c98, (ys ++ ([⟨(el hs k).nm, A72, (el hs k).ps.length, c73, (el hs k).ps⟩] : List Fl))) ⟨rfl, (iv (by omega)), rfl, rfl, trivial⟩ ⟨?_, hRhs, hDhs, hO90, hDO9, hc⟩ ?_
      · exact ⟨by omega, by simp; omega, fvs_snoc (by omega) hyv rfl, hZy.app (SzOK.one (by dsimp only; omega) (by dsimp only; omega))⟩
      · (first | omega | (simp only []; omega))
    · -- else
      replace h39 := of_decide_eq_false h39
      refine cw_exit ?_
      refine hK19 _ _ ?_
      refine cw_seq fun K104 hK105 => ?_
      refine cw_region fun K106 hK107 => ?_
      refine rw_cons (op_pv (w0 rfl) rfl rfl (pv_move (v := (.slice Ao ys.length co)) rfl rfl) ?_)
      refine rw_cons (op_pv (w0 rfl) rfl rfl (pv_assign (v := (.slice Ao ys.length co)) rfl rfl) ?_)
      refine rw_nil (hK107 _ _ ?_)
      refine hK105 _ _ ?_
      refine cw_ret ?_
      refine fin1 rfl ?_
      have he_0 : fvs ys = fvs hs := by rw [hyv]; exact el_take_all _ _ (by rw [fvs_len]; omega)
      exact ⟨_, _, ys, (sl_as hO15 rfl), own_as (xs := ys) (hO15.less (by omega)) rfl, (hDO.as (by omega) (by omega)), he_0, (by first | assumption | exact SzOK.nil), hc⟩
end Go.Proofs.Ythgnlljpjpklpaa

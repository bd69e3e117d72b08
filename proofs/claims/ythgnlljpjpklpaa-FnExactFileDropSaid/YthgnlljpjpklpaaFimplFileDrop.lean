/-
  The walk of impl.FileDrop, written by program: each line names the law of one operation. Conditions: those of the theorem.
-/
import Derived.Test.YthgnlljpjpklpaaProg
import Derived.Test.YthgnlljpjpklpaaDeep
import Derived.Test.YthgnlljpjpklpaaFlaw
import Derived.Test.YthgnlljpjpklpaaFops
import Derived.Test.YthgnlljpjpklpaaFimplFilesValid
import Derived.Test.YthgnlljpjpklpaaFimplfilePlace
import Derived.Test.YthgnlljpjpklpaaFimplcopyFiles
import Derived.KernelRfl
namespace Go.Proofs.Ythgnlljpjpklpaa
open Go Go.RowKit
set_option linter.unusedVariables false
set_option linter.unusedSimpArgs false
namespace FileDrop_iF
theorem T3 : TI Try.prog 3 false (.int .i64 0) 1 8 := TI.mk' Try.underlying3 rfl (by kernel_rfl)
theorem T25 : TI Try.prog 25 false (.slice none 0 0) 1 24 := TI.mk' Try.underlying25 rfl (by kernel_rfl)
theorem T48 : TI Try.prog 48 true (.agg #[.string { data := #[] }, .slice none 0 0]) 2 40 := TI.mk' Try.underlying48 rfl (by kernel_rfl)
theorem F48_1 : FldOK Try.prog 48 1 1 := ⟨_, _, 0, Try.underlying48, rfl, rfl, by kernel_rfl⟩
theorem C31 : Callable Try.prog 31 := ⟨_, Try.func31, by kernel_rfl, by kernel_rfl⟩
theorem C49 : Callable Try.prog 49 := ⟨_, Try.func49, by kernel_rfl, by kernel_rfl⟩
theorem C50 : Callable Try.prog 50 := ⟨_, Try.func50, by kernel_rfl, by kernel_rfl⟩
end FileDrop_iF
open FileDrop_iF in
set_option maxHeartbeats 4000000 in
theorem FileDrop_i (Ahs : Option Addr) (nhs chs : Nat) (hs : List Fl) (s : ByteArray) (w : World) (hRhs : RS encF 2 w w.heap.size Ahs nhs hs) (hDhs : DX 0 w.heap.size [] w hs) (hZhs : SzOK hs) (hNhs : nhs ≤ 1099511627776) (hcap : nhs ≤ chs) :
    Fn Try.prog 21 [(.slice Ahs nhs chs), (.string s)] w fun v w' => ∃ A_0 c_0 h_0 A_1 c_1, v = .tuple #[.slice A_0 h_0.length c_0, .slice A_1 (dropP (fvs hs) s).length c_1, .bool (dec (DropOK (fvs hs) s))] ∧ Own encI 1 w' w.heap.size 3 (.slice A_1 (dropP (fvs hs) s).length c_1) (dropP (fvs hs) s) ∧ Own encF 2 w' w.heap.size 48 (.slice A_0 h_0.length c_0) h_0 ∧ DOw w.heap.size w'.heap.size (obl (.slice A_0 h_0.length c_0)) 3 w' h_0 ∧ fvs h_0 = dropV (fvs hs) s ∧ SzOK h_0 ∧ (∃ B0, B0 ≤ w'.heap.size ∧ w.heap.size ≤ B0 ∧ (∀ s ∈ obl (.slice A_0 h_0.length c_0), s < B0) ∧ DOw w.heap.size B0 (obl (.slice A_0 h_0.length c_0)) 3 w' h_0 ∧ Own encI 1 w' B0 3 (.slice A_1 (dropP (fvs hs) s).length c_1) (dropP (fvs hs) s)) ∧ Ch [] w w' := by
  have hlenhs := hRhs.len
  refine fn_of (n := 39) Try.func21 rfl rfl rfl rfl ?_
  have hc : Ch [] w w := Ch.refl _ _
  refine cw_seq fun K1 hK2 => ?_
  refine cw_region fun K3 hK4 => ?_
  refine rw_cons (op_pv (w0 rfl) rfl rfl (pv_assign (v := (.slice none 0 0)) rfl rfl) ?_)
  refine rw_cons (op_pv (w0 rfl) rfl rfl (pv_assign (v := (.slice none 0 0)) rfl rfl) ?_)
  refine rw_cons (op_pv (w0 rfl) rfl rfl (pv_assign (v := (.bool false)) rfl rfl) ?_)
  refine rw_nil (hK4 _ _ ?_)
  refine hK2 _ _ ?_
  refine cw_seq fun K5 hK6 => ?_
  refine cw_seq fun K7 hK8 => ?_
  refine cw_region fun K9 hK10 => ?_
  refine rw_cons (op_pv (w0 rfl) rfl rfl (pv_move (v := (.slice Ahs nhs chs)) rfl rfl) ?_)
  refine rw_cons (op_call (w0 rfl) rfl rfl (rc_call C31 rfl rfl) (FilesValid_i _ nhs _ hs _ (hRhs.more (by omega)) (hDhs.any (by omega)) (by first | assumption | exact SzOK.nil) (by omega)) ?_)
  rintro _ w11 ⟨rfl, hch12⟩
  have hsz13 := hch12.size
  replace hRhs := hRhs.ch0 hch12
  replace hDhs := hDhs.ch0 hch12
  replace hc := hc.step0 hch12
  refine rw_cons (op_pv (w0 rfl) rfl rfl (pv_not rfl rfl) ?_)
  refine rw_nil (hK10 _ _ ?_)
  refine hK8 _ _ ?_
  refine cw_cond rfl (fun h14 => ?_) (fun h14 => ?_)
  · -- then
    replace h14 := not_t h14
    replace h14 := dec_f h14
    refine cw_seq fun K15 hK16 => ?_
    refine cw_region fun K17 hK18 => ?_
    refine rw_cons (op_bslice [] Try.underlying24 T48 (w0 rfl) rfl rfl rfl rfl rfl (by simp [Value.cells]) (by decide) ?_)
    intro g20 w19 hg23 hg24 hK22 hch21
    have hO25 : Own encF 2 w19 w11.heap.size 48 (.slice (some ⟨g20, 0, none⟩) 0 0) ([] : List Fl) := Blk.own (xs := ([] : List Fl)) hK22 (by omega) rfl (by decide) rfl
    have hsz26 := hch21.size
    replace hRhs := hRhs.ch0 hch21
    replace hDhs := hDhs.ch0 hch21
    replace hc := hc.step0 hch21
    have hub27 := hO25.lt
    refine rw_cons (op_bslice [] Try.underlying25 T3 (w0 rfl) rfl rfl rfl rfl rfl (by simp [Value.cells]) (by decide) ?_)
    intro g29 w28 hg32 hg33 hK31 hch30
    have hO34 : Own encI 1 w28 w19.heap.size 3 (.slice (some ⟨g29, 0, none⟩) 0 0) ([] : List Int) := Blk.own (xs := ([] : List Int)) hK31 (by omega) rfl (by decide) rfl
    have hsz35 := hch30.size
    replace hRhs := hRhs.ch0 hch30
    replace hDhs := hDhs.ch0 hch30
    replace hO25 := hO25.ch0 hch30
    replace hc := hc.step0 hch30
    have hub36 := hO34.lt
    have hdj37 : ∀ s ∈ obl (.slice (some ⟨g20, 0, none⟩) 0 0), s ∉ obl (.slice (some ⟨g29, 0, none⟩) 0 0) := fun s hs hs2 => by first | (have h1 := hub27 s hs; have h2 := hO34.off s hs2; omega) | (simp [obl, Value.ownBlock] at hs; done) | (simp [obl, Value.ownBlock] at hs2; done) | (have h1 := hub27 s hs; simp [obl, Value.ownBlock] at hs2; omega)
    refine rw_cons (op_pv (w0 rfl) rfl rfl (pv_assign (v := (.slice (some ⟨g20, 0, none⟩) 0 0)) rfl rfl) ?_)
    refine rw_cons (op_pv (w0 rfl) rfl rfl (pv_assign (v := (.slice (some ⟨g29, 0, none⟩) 0 0)) rfl rfl) ?_)
    refine rw_cons (op_pv (w0 rfl) rfl rfl (pv_assign (v := (.bool false)) rfl rfl) ?_)
    refine rw_nil (hK18 _ _ ?_)
    refine hK16 _ _ ?_
    refine cw_ret ?_
    refine fin3 rfl rfl rfl ?_
    have hno : ¬DropOK (fvs hs) s := by rintro ⟨h1, h2⟩; first | contradiction | omega
    have he_0 : fvs ([] : List Fl) = dropV (fvs hs) s := (dropV_no hno).symm
    have he_1 : ([] : List Int) = dropP (fvs hs) s := (dropP_no hno).symm
    exact ⟨_, _, ([] : List Fl), _, _, tup3 (sl_as hO25 rfl) (sl_as hO34 he_1) (bvf hno), own_as (hO34.less (by omega)) he_1, own_as (xs := ([] : List Fl)) (hO25.less (by omega)) rfl, DOw.nil, he_0, (by first | assumption | exact SzOK.nil), ⟨w19.heap.size, by omega, by omega, fun s h => Nat.lt_of_lt_of_le (hub27 s h) (by omega), DOw.nil, own_as hO34 he_1⟩, hc⟩
  · -- else
    replace h14 := not_f h14
    replace h14 := dec_t h14
    refine cw_skip ?_
    refine hK6 _ _ ?_
    refine cw_seq fun K38 hK39 => ?_
    refine cw_region fun K40 hK41 => ?_
    refine rw_cons (op_pv (w0 rfl) rfl rfl (pv_move (v := (.slice Ahs nhs chs)) rfl rfl) ?_)
    refine rw_cons (op_pv (w0 rfl) rfl rfl (pv_move (v := (.string s)) rfl rfl) ?_)
    refine rw_cons (op_call (w0 rfl) rfl rfl (rc_call C49 rfl rfl) (filePlace_i _ nhs _ hs s _ (hRhs.more (by omega)) (hDhs.any (by omega)) (by first | assumption | exact SzOK.nil) (by omega)) ?_)
    rintro _ w42 ⟨rfl, hch43⟩
    have hsz44 := hch43.size
    replace hRhs := hRhs.ch0 hch43
    replace hDhs := hDhs.ch0 hch43
    replace hc := hc.step0 hch43
    have hnt45 := place_bds hs s
    refine rw_cons (op_pv (w0 rfl) rfl rfl (pv_assign (v := (.int .i64 (fplace (fvs hs) s))) rfl rfl) ?_)
    refine rw_nil (hK41 _ _ ?_)
    refine hK39 _ _ ?_
    refine cw_seq fun K46 hK47 => ?_
    refine cw_seq fun K48 hK49 => ?_
    refine cw_region fun K50 hK51 => ?_
    refine rw_cons (op_pv (w0 rfl) rfl rfl (pv_move (v := (.int .i64 (fplace (fvs hs) s))) rfl rfl) ?_)
    refine rw_cons (op_pv (w0 rfl) rfl rfl (pv_lss rfl rfl rfl) ?_)
    refine rw_nil (hK51 _ _ ?_)
    refine hK49 _ _ ?_
    refine cw_cond rfl (fun h52 => ?_) (fun h52 => ?_)
    · -- then
      replace h52 := of_decide_eq_true h52
      refine cw_seq fun K53 hK54 => ?_
      refine cw_region fun K55 hK56 => ?_
      refine rw_cons (op_bslice [] Try.underlying24 T48 (w0 rfl) rfl rfl rfl rfl rfl (by simp [Value.cells]) (by decide) ?_)
      intro g58 w57 hg61 hg62 hK60 hch59
      have hO63 : Own encF 2 w57 w42.heap.size 48 (.slice (some ⟨g58, 0, none⟩) 0 0) ([] : List Fl) := Blk.own (xs := ([] : List Fl)) hK60 (by omega) rfl (by decide) rfl
      have hsz64 := hch59.size
      replace hRhs := hRhs.ch0 hch59
      replace hDhs := hDhs.ch0 hch59
      replace hc := hc.step0 hch59
      have hub65 := hO63.lt
      refine rw_cons (op_bslice [] Try.underlying25 T3 (w0 rfl) rfl rfl rfl rfl rfl (by simp [Value.cells]) (by decide) ?_)
      intro g67 w66 hg70 hg71 hK69 hch68
      have hO72 : Own encI 1 w66 w57.heap.size 3 (.slice (some ⟨g67, 0, none⟩) 0 0) ([] : List Int) := Blk.own (xs := ([] : List Int)) hK69 (by omega) rfl (by decide) rfl
      have hsz73 := hch68.size
      replace hRhs := hRhs.ch0 hch68
      replace hDhs := hDhs.ch0 hch68
      replace hO63 := hO63.ch0 hch68
      replace hc := hc.step0 hch68
      have hub74 := hO72.lt
      have hdj75 : ∀ s ∈ obl (.slice (some ⟨g58, 0, none⟩) 0 0), s ∉ obl (.slice (some ⟨g67, 0, none⟩) 0 0) := fun s hs hs2 => by first | (have h1 := hub65 s hs; have h2 := hO72.off s hs2; omega) | (simp [obl, Value.ownBlock] at hs; done) | (simp [obl, Value.ownBlock] at hs2; done) | (have h1 := hub65 s hs; simp [obl, Value.ownBlock] at hs2; omega)
      refine rw_cons (op_pv (w0 rfl) rfl rfl (pv_assign (v := (.slice (some ⟨g58, 0, none⟩) 0 0)) rfl rfl) ?_)
      refine rw_cons (op_pv (w0 rfl) rfl rfl (pv_assign (v := (.slice (some ⟨g67, 0, none⟩) 0 0)) rfl rfl) ?_)
      refine rw_cons (op_pv (w0 rfl) rfl rfl (pv_assign (v := (.bool false)) rfl rfl) ?_)
      refine rw_nil (hK56 _ _ ?_)
      refine hK54 _ _ ?_
      refine cw_ret ?_
      refine fin3 rfl rfl rfl ?_
      have hno : ¬DropOK (fvs hs) s := by rintro ⟨h1, h2⟩; first | contradiction | omega
      have he_0 : fvs ([] : List Fl) = dropV (fvs hs) s := (dropV_no hno).symm
      have he_1 : ([] : List Int) = dropP (fvs hs) s := (dropP_no hno).symm
      exact ⟨_, _, ([] : List Fl), _, _, tup3 (sl_as hO63 rfl) (sl_as hO72 he_1) (bvf hno), own_as (hO72.less (by omega)) he_1, own_as (xs := ([] : List Fl)) (hO63.less (by omega)) rfl, DOw.nil, he_0, (by first | assumption | exact SzOK.nil), ⟨w57.heap.size, by omega, by omega, fun s h => Nat.lt_of_lt_of_le (hub65 s h) (by omega), DOw.nil, own_as hO72 he_1⟩, hc⟩
    · -- else
      replace h52 := of_decide_eq_false h52
      refine cw_skip ?_
      refine hK47 _ _ ?_
      refine cw_seq fun K76 hK77 => ?_
      obtain ⟨p, hp⟩ : ∃ p : Nat, fplace (fvs hs) s = (p : Int) := ⟨(fplace (fvs hs) s).toNat, by omega⟩
      rw [hp]
      have hpn : p < nhs := by have := place_bds hs s; omega
      refine cw_drawn (fun u => Ch [] w42 u) (.free 0 (.free 1 (.free 2 (.free 4 (.free 5 (.free 6 (.free 7 (.one 3 true (.one 8 true (.one 9 true (.free 10 (.done)))))))))))) (by kernel_rfl) (by kernel_rfl) (Ch.refl _ _).drew fun K81 hK82 => ?_
      obtain ⟨w78, hw_, hch79, hsz80⟩ : ∃ w1 : World, w1 = w42.drew ∧ Ch [] w42 w1 ∧ w1.heap.size = w42.heap.size := ⟨_, rfl, (Ch.refl _ _).drew, rfl⟩
      rw [← hw_]; clear hw_
      have hr83 : Ch [] w42 w78 := hch79.sub (fun s hs => by cases hs)
      have hRhs_r := hRhs
      have hDhs_r := hDhs
      have hsz84 := hch79.size
      replace hRhs := hRhs.ch0 hch79
      replace hDhs := hDhs.ch0 hch79
      replace hc := hc.step0 hch79
      refine tw_free rfl (w0 rfl) rfl rfl (fun u hu => (pv_move (v := (.slice Ahs nhs chs)) rfl rfl : PV _ _ _ _) u) ?_
      refine tw_free rfl (w0 rfl) rfl rfl (fun u hu => (pv_move (v := (.int .i64 (p : Int))) rfl rfl : PV _ _ _ _) u) ?_
      refine tw_free rfl (w0 rfl) rfl rfl (fun u hu => (pv_upto Try.underlying24 T48 rfl rfl rfl (by omega) (by omega) : PV _ _ _ _) u) ?_
      have hR85 : RS encF 2 w78 w.heap.size Ahs p (hs.take p) := (hRhs).upto (by omega)
      have hD86 : DX 0 w.heap.size ([]) w78 (hs.take p) := (hDhs).take p
      have hZ87 : SzOK (hs.take p) := SzOK.take (by assumption) p
      refine tw_free rfl (w0 rfl) rfl rfl (fun u hu => (pv_move (v := (.slice Ahs nhs chs)) rfl rfl : PV _ _ _ _) u) ?_
      refine tw_free rfl (w0 rfl) rfl rfl (fun u hu => (pv_move (v := (.int .i64 (p : Int))) rfl rfl : PV _ _ _ _) u) ?_
      refine tw_free rfl (w0 rfl) rfl rfl (fun u hu => (pv_add rfl rfl rfl (by omega) (by omega) : PV _ _ _ _) u) ?_
      refine tw_free rfl (w0 rfl) rfl rfl (fun u hu => (pv_from Try.underlying24 T48 rfl rfl rfl (by omega) (by omega) : PV _ _ _ _) u) ?_
      have hR88 : RS encF 2 w78 w.heap.size (if chs = (p + 1) then Ahs else (Ahs : Option Addr).map (·.add ((p + 1) * 2))) (nhs - (p + 1)) (hs.drop (p + 1)) := (hRhs).from (by omega) (by omega)
      have hD89 : DX 0 w.heap.size ([]) w78 (hs.drop (p + 1)) := (hDhs).drop (p + 1)
      have hZ90 : SzOK (hs.drop (p + 1)) := SzOK.drop (by assumption) (p + 1)
      refine tw_one rfl (op_call (w0 rfl) rfl rfl (rc_call C50 rfl rfl) (copyFiles_ok _ p _ (hs.take p) _ (hR85.more (by omega)) (hD86.any (by omega)) (by first | assumption | exact SzOK.nil) (by omega)) ?_)
      rintro _ w91 ⟨A93, c94, hs95, rfl, hO96, hDO97, hfe98, hZ99, hch92⟩
      have hsz100 := hch92.size
      replace hRhs := hRhs.ch0 hch92
      replace hDhs := hDhs.ch0 hch92
      replace hR85 := hR85.ch0 hch92
      replace hD86 := hD86.ch0 hch92
      replace hR88 := hR88.ch0 hch92
      replace hD89 := hD89.ch0 hch92
      replace hc := hc.step0 hch92
      replace hr83 := hr83.step0 hch92
      have hub101 := hO96.lt
      have hcap102 : hs95.length ≤ c94 := by obtain ⟨_, _, hv, h1, _⟩ := hO96.form; injection hv with _ _ h3; omega
      have hfl103 : hs95.length = (fvs (hs.take p)).length := by rw [← hfe98, fvs_len]
      try simp only [fvs_len, List.length_take, List.length_drop] at hfl103
      refine ⟨fun _ => hr83, ?_⟩
      refine tw_one rfl (op_call (w0 rfl) rfl rfl (rc_call C50 rfl rfl) (copyFiles_ok _ (nhs - (p + 1)) _ (hs.drop (p + 1)) _ (hR88.more (by omega)) (hD89.any (by omega)) (by first | assumption | exact SzOK.nil) (by omega)) ?_)
      rintro _ w104 ⟨A106, c107, hs108, rfl, hO109, hDO110, hfe111, hZ112, hch105⟩
      have hsz113 := hch105.size
      replace hRhs := hRhs.ch0 hch105
      replace hDhs := hDhs.ch0 hch105
      replace hR85 := hR85.ch0 hch105
      replace hD86 := hD86.ch0 hch105
      replace hR88 := hR88.ch0 hch105
      replace hD89 := hD89.ch0 hch105
      replace hO96 := hO96.ch0 hch105
      replace hDO97 := hDO97.ch0 hch105
      replace hc := hc.step0 hch105
      replace hr83 := hr83.step0 hch105
      have hub114 := hO109.lt
      have hcap115 : hs108.length ≤ c107 := by obtain ⟨_, _, hv, h1, _⟩ := hO109.form; injection hv with _ _ h3; omega
      have hfl116 : hs108.length = (fvs (hs.drop (p + 1))).length := by rw [← hfe111, fvs_len]
      try simp only [fvs_len, List.length_take, List.length_drop] at hfl116
      refine ⟨fun _ => hr83, ?_⟩
      have hdj117 : ∀ s ∈ obl (.slice A93 hs95.length c94), s ∉ obl (.slice A106 hs108.length c107) := fun s hs hs2 => by first | (have h1 := hub101 s hs; have h2 := hO109.off s hs2; omega) | (simp [obl, Value.ownBlock] at hs; done) | (simp [obl, Value.ownBlock] at hs2; done) | (have h1 := hub101 s hs; simp [obl, Value.ownBlock] at hs2; omega)
      refine tw_one rfl (op_append Try.underlying24 T48 (fun _ => rfl) rfl (by decide) (fun _ => one_all rfl) (w0 rfl) rfl rfl rfl rfl rfl hO96 (hO109.rs (fun _ => rfl)) (by unfold maxLen; first | omega | (simp; omega)) (by first | omega | (simp; omega)) (by omega) ?_)
      rintro v118 w119 hO120 hch121 hs122
      have hl123 : (hs95 ++ hs108).length = hs95.length + hs108.length := by first | (have hl0 := (hO109.rs (fun _ => rfl)).len; omega) | (have hl0 := (hO109.rs (fun _ => rfl)).len; simp only [List.length_append, List.length_cons, List.length_nil] at hl0 ⊢; omega) | (simp; omega; done) | simp | rfl
      have hsz125 := hch121.size
      replace hRhs := hRhs.ch hch121 (hO96.off.le (by omega))
      replace hDhs := hDhs.ch hch121 (fun s hs => by first | exact .inr (.inl hs) | exact .inr (.inl (obl_any hs)) | exact .inr (.inr (Nat.le_trans (by omega) (hO96.off s hs))) | exact .inl (Nat.lt_of_lt_of_le (hub101 s hs) (by omega)))
      replace hR85 := hR85.ch hch121 (hO96.off.le (by omega))
      replace hD86 := hD86.ch hch121 (fun s hs => by first | exact .inr (.inl hs) | exact .inr (.inl (obl_any hs)) | exact .inr (.inr (Nat.le_trans (by omega) (hO96.off s hs))) | exact .inl (Nat.lt_of_lt_of_le (hub101 s hs) (by omega)))
      replace hR88 := hR88.ch hch121 (hO96.off.le (by omega))
      replace hD89 := hD89.ch hch121 (fun s hs => by first | exact .inr (.inl hs) | exact .inr (.inl (obl_any hs)) | exact .inr (.inr (Nat.le_trans (by omega) (hO96.off s hs))) | exact .inl (Nat.lt_of_lt_of_le (hub101 s hs) (by omega)))
      replace hDO97 := hDO97.ch hch121 (fun s hs => by first | exact .inr (.inl hs) | exact .inr (.inl (obl_any hs)) | exact .inr (.inr (Nat.le_trans (by omega) (hO96.off s hs))) | exact .inl (Nat.lt_of_lt_of_le (hub101 s hs) (by omega)))
      replace hO109 := hO109.ch hch121 (dj_sw hdj117)
      replace hDO110 := hDO110.ch hch121 (fun s hs => by first | exact .inr (.inl hs) | exact .inr (.inl (obl_any hs)) | exact .inr (.inr (Nat.le_trans (by omega) (hO96.off s hs))) | exact .inl (Nat.lt_of_lt_of_le (hub101 s hs) (by omega)))
      replace hc := (hO96.off.le (by omega)).step hc hch121
      replace hr83 := (hO96.off.le (by omega)).step hr83 hch121
      have hub126 := hO120.lt
      obtain ⟨A127, c128, hv129, hcap130, hcap131⟩ := hO120.form; subst hv129
      have hdj124 : ∀ s ∈ obl (.slice A127 (hs95 ++ hs108).length c128), s ∉ obl (.slice A106 hs108.length c107) := dj_new hs122 (dj_as hdj117) (fun s hs => by have := hub114 s hs; omega)
      refine ⟨fun _ => hr83, ?_⟩
      have hq1 := hDO97.rex2 (Y := obl (.slice A127 (hs95 ++ hs108).length c128)) (fun s h => by rcases hs122 s h with h8 | h8; exact .inr (.inl h8); right; right; omega)
      have hq2 := hDO110.rex2 (Y := obl (.slice A127 (hs95 ++ hs108).length c128)) (fun s h => by rcases hs122 s h with h8 | h8; (have := hub101 s h8; left; omega); right; right; omega)
      have hDO132 : DOw w78.heap.size w104.heap.size (obl (.slice A127 (hs95 ++ hs108).length c128)) 3 w119 (hs95 ++ hs108) := hq1.app2 hq2 (by omega) (by omega) (by omega)
      have hZ133 : SzOK (hs95 ++ hs108) := SzOK.app (by assumption) (by assumption)
      refine tw_free rfl (w0 rfl) rfl rfl (fun u hu => (pv_assign (v := (.slice A127 (hs95 ++ hs108).length c128)) rfl rfl : PV _ _ _ _) u) ?_
      try clear hDhs_r
      try clear hRhs_r
      refine tw_done (hK82 _ _ ?_)
      refine hK77 _ _ ?_
      refine cw_seq fun K134 hK135 => ?_
      refine cw_region fun K136 hK137 => ?_
      refine rw_cons (op_pv (w0 rfl) rfl rfl (pv_move (v := (.slice A127 (hs95 ++ hs108).length c128)) rfl rfl) ?_)
      refine rw_cons (op_bslice [] Try.underlying25 T3 (w0 rfl) rfl rfl rfl rfl rfl (by simp [Value.cells]) (by decide) ?_)
      intro g139 w138 hg142 hg143 hK141 hch140
      have hO144 : Own encI 1 w138 w119.heap.size 3 (.slice (some ⟨g139, 0, none⟩) 0 0) ([] : List Int) := Blk.own (xs := ([] : List Int)) hK141 (by omega) rfl (by decide) rfl
      have hsz145 := hch140.size
      replace hRhs := hRhs.ch0 hch140
      replace hDhs := hDhs.ch0 hch140
      replace hR85 := hR85.ch0 hch140
      replace hD86 := hD86.ch0 hch140
      replace hR88 := hR88.ch0 hch140
      replace hD89 := hD89.ch0 hch140
      replace hO109 := hO109.ch0 hch140
      replace hO120 := hO120.ch0 hch140
      replace hDO132 := hDO132.ch0 hch140
      replace hc := hc.step0 hch140
      have hub146 := hO144.lt
      have hdj147 : ∀ s ∈ obl (.slice A106 hs108.length c107), s ∉ obl (.slice (some ⟨g139, 0, none⟩) 0 0) := fun s hs hs2 => by first | (have h1 := hub114 s hs; have h2 := hO144.off s hs2; omega) | (simp [obl, Value.ownBlock] at hs; done) | (simp [obl, Value.ownBlock] at hs2; done) | (have h1 := hub114 s hs; simp [obl, Value.ownBlock] at hs2; omega)
      have hdj148 : ∀ s ∈ obl (.slice A127 (hs95 ++ hs108).length c128), s ∉ obl (.slice (some ⟨g139, 0, none⟩) 0 0) := fun s hs hs2 => by first | (have h1 := hub126 s hs; have h2 := hO144.off s hs2; omega) | (simp [obl, Value.ownBlock] at hs; done) | (simp [obl, Value.ownBlock] at hs2; done) | (have h1 := hub126 s hs; simp [obl, Value.ownBlock] at hs2; omega)
      refine rw_cons (op_pv (w0 rfl) rfl rfl (pv_move (v := (.slice Ahs nhs chs)) rfl rfl) ?_)
      refine rw_cons (op_pv (w0 rfl) rfl rfl (pv_move (v := (.int .i64 (p : Int))) rfl rfl) ?_)
      refine rw_cons (op_pv (w0 rfl) rfl rfl (pv_idx Try.underlying24 T48 rfl rfl rfl (hRhs.some (k := p) (by omega)) (by omega) (by omega)) ?_)
      refine rw_cons (op_pv (w0 rfl) rfl rfl (pv_fld F48_1 rfl rfl) ?_)
      have hzp := hZhs p (by omega)
      have hR149 : RS encI 1 w138 w.heap.size (el hs p).A (el hs p).n (el hs p).ps := hDhs.rs (k := p) (by omega)
      have hln150 := hR149.len
      refine rw_cons (op_lv (w0 rfl) rfl rfl (lv_load T25 rfl rfl (hRhs.cellE (k := p) (j := 1) (by omega) rfl)) ?_)
      refine rw_cons (op_append Try.underlying25 T3 (fun _ => rfl) rfl (by decide) (fun _ => one_all rfl) (w0 rfl) rfl rfl rfl rfl rfl hO144 hR149 (by unfold maxLen; first | omega | (simp; omega)) (by first | omega | (simp; omega)) (by omega) ?_)
      rintro v151 w152 hO153 hch154 hs155
      replace hO153 : Own encI 1 w152 w119.heap.size 3 v151 (el hs p).ps := hO153
      have hl156 : (el hs p).ps.length = 0 + (el hs p).n := by first | (have hl0 := hR149.len; omega) | (have hl0 := hR149.len; simp only [List.length_append, List.length_cons, List.length_nil] at hl0 ⊢; omega) | (simp; omega; done) | simp | rfl
      have hsz159 := hch154.size
      replace hRhs := hRhs.ch hch154 (hO144.off.le (by omega))
      replace hDhs := hDhs.ch hch154 (fun s hs => by first | exact .inr (.inl hs) | exact .inr (.inl (obl_any hs)) | exact .inr (.inr (Nat.le_trans (by omega) (hO144.off s hs))) | exact .inl (Nat.lt_of_lt_of_le (hub146 s hs) (by omega)))
      replace hR85 := hR85.ch hch154 (hO144.off.le (by omega))
      replace hD86 := hD86.ch hch154 (fun s hs => by first | exact .inr (.inl hs) | exact .inr (.inl (obl_any hs)) | exact .inr (.inr (Nat.le_trans (by omega) (hO144.off s hs))) | exact .inl (Nat.lt_of_lt_of_le (hub146 s hs) (by omega)))
      replace hR88 := hR88.ch hch154 (hO144.off.le (by omega))
      replace hD89 := hD89.ch hch154 (fun s hs => by first | exact .inr (.inl hs) | exact .inr (.inl (obl_any hs)) | exact .inr (.inr (Nat.le_trans (by omega) (hO144.off s hs))) | exact .inl (Nat.lt_of_lt_of_le (hub146 s hs) (by omega)))
      replace hO109 := hO109.ch hch154 (dj_as hdj147)
      replace hO120 := hO120.ch hch154 (dj_as hdj148)
      replace hDO132 := hDO132.ch hch154 (fun s hs => by first | exact .inr (.inl hs) | exact .inr (.inl (obl_any hs)) | exact .inr (.inr (Nat.le_trans (by omega) (hO144.off s hs))) | exact .inl (Nat.lt_of_lt_of_le (hub146 s hs) (by omega)))
      replace hR149 := hR149.ch hch154 (hO144.off.le (by omega))
      replace hc := (hO144.off.le (by omega)).step hc hch154
      have hub160 := hO153.lt
      obtain ⟨A161, c162, hv163, hcap164, hcap165⟩ := hO153.form; subst hv163
      have hdj157 : ∀ s ∈ obl (.slice A161 (el hs p).ps.length c162), s ∉ obl (.slice A106 hs108.length c107) := dj_new hs155 (dj_sw hdj147) (fun s hs => by have := hub114 s hs; omega)
      have hdj158 : ∀ s ∈ obl (.slice A161 (el hs p).ps.length c162), s ∉ obl (.slice A127 (hs95 ++ hs108).length c128) := dj_new hs155 (dj_sw hdj148) (fun s hs => by have := hub126 s hs; omega)
      refine rw_cons (op_pv (w0 rfl) rfl rfl (pv_assign (v := (.slice A127 (hs95 ++ hs108).length c128)) rfl rfl) ?_)
      refine rw_cons (op_pv (w0 rfl) rfl rfl (pv_assign (v := (.slice A161 (el hs p).ps.length c162)) rfl rfl) ?_)
      refine rw_cons (op_pv (w0 rfl) rfl rfl (pv_assign (v := (.bool true)) rfl rfl) ?_)
      refine rw_nil (hK137 _ _ ?_)
      refine hK135 _ _ ?_
      refine cw_ret ?_
      refine fin3 rfl rfl rfl ?_
      have hyes : DropOK (fvs hs) s := ⟨by assumption, by omega⟩
      have he_0 : fvs (hs95 ++ hs108) = dropV (fvs hs) s := by rw [dropV_yes hyes, dropF_eq hp, fvs_app, hfe98, hfe111, fvs_take, fvs_drop]
      have he_1 : (el hs p).ps = dropP (fvs hs) s := (by rw [dropP_eq hyes hp, el_fvs (by omega)]; rfl)
      exact ⟨_, _, (hs95 ++ hs108), _, _, tup3 (sl_as hO120 rfl) (sl_as hO153 he_1) (bvt hyes), own_as (hO153.less (by omega)) he_1, own_as (xs := (hs95 ++ hs108)) (hO120.less (by omega)) rfl, (hDO132.as (by omega) (by omega)), he_0, (by first | assumption | exact SzOK.nil), ⟨w119.heap.size, by omega, by omega, fun s h => Nat.lt_of_lt_of_le (hub126 s h) (by omega), hDO132.as (by omega) (by omega), own_as hO153 he_1⟩, hc⟩
end Go.Proofs.Ythgnlljpjpklpaa

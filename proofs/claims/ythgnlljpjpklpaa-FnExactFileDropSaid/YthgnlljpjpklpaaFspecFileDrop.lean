/-
  The walk of spec.FileDrop, written by program: each line names the law of one operation. Conditions: those of the theorem.
-/
import Derived.Test.YthgnlljpjpklpaaProg
import Derived.Test.YthgnlljpjpklpaaDeep
import Derived.Test.YthgnlljpjpklpaaFlaw
import Derived.Test.YthgnlljpjpklpaaFops
import Derived.Test.YthgnlljpjpklpaaFspecFilesValid
import Derived.Test.YthgnlljpjpklpaaFspecl21At
import Derived.Test.YthgnlljpjpklpaaFspecl21Copy
import Derived.KernelRfl
namespace Go.Proofs.Ythgnlljpjpklpaa
open Go Go.RowKit
set_option linter.unusedVariables false
set_option linter.unusedSimpArgs false
namespace FileDrop_sF
theorem T3 : TI Try.prog 3 false (.int .i64 0) 1 8 := TI.mk' Try.underlying3 rfl (by kernel_rfl)
theorem T25 : TI Try.prog 25 false (.slice none 0 0) 1 24 := TI.mk' Try.underlying25 rfl (by kernel_rfl)
theorem T48 : TI Try.prog 48 true (.agg #[.string { data := #[] }, .slice none 0 0]) 2 40 := TI.mk' Try.underlying48 rfl (by kernel_rfl)
theorem F48_1 : FldOK Try.prog 48 1 1 := ⟨_, _, 0, Try.underlying48, rfl, rfl, by kernel_rfl⟩
theorem C32 : Callable Try.prog 32 := ⟨_, Try.func32, by kernel_rfl, by kernel_rfl⟩
theorem C46 : Callable Try.prog 46 := ⟨_, Try.func46, by kernel_rfl, by kernel_rfl⟩
theorem C47 : Callable Try.prog 47 := ⟨_, Try.func47, by kernel_rfl, by kernel_rfl⟩
end FileDrop_sF
open FileDrop_sF in
set_option maxHeartbeats 4000000 in
theorem FileDrop_s (Ahs : Option Addr) (nhs chs : Nat) (hs : List Fl) (s : ByteArray) (w : World) (hRhs : RS encF 2 w w.heap.size Ahs nhs hs) (hDhs : DX 0 w.heap.size [] w hs) (hZhs : SzOK hs) (hNhs : nhs ≤ 1099511627776) (h8 : nhs ≤ 1048576) :
    Fn Try.prog 19 [(.slice Ahs nhs chs), (.string s)] w fun v w' => ∃ A_0 c_0 h_0 A_1 c_1 n_1, v = .tuple #[.slice A_0 h_0.length c_0, .slice A_1 n_1 c_1, .bool (dec (DropOK (fvs hs) s))] ∧ Own encF 2 w' w.heap.size 48 (.slice A_0 h_0.length c_0) h_0 ∧ DX w.heap.size w'.heap.size [] w' h_0 ∧ fvs h_0 = dropV (fvs hs) s ∧ SzOK h_0 ∧ RS encI 1 w' w'.heap.size A_1 n_1 (dropP (fvs hs) s) ∧ Ch [] w w' := by
  have hlenhs := hRhs.len
  refine fn_of (n := 38) Try.func19 rfl rfl rfl rfl ?_
  have hc : Ch [] w w := Ch.refl _ _
  refine cw_seq fun K1 hK2 => ?_
  refine cw_region fun K3 hK4 => ?_
  refine rw_cons (op_pv (w0 rfl) rfl rfl (pv_assign (v := (.slice none 0 0)) rfl rfl) ?_)
  refine rw_cons (op_pv (w0 rfl) rfl rfl (pv_assign (v := (.slice none 0 0)) rfl rfl) ?_)
  refine rw_cons (op_pv (w0 rfl) rfl rfl (pv_assign (v := (.bool false)) rfl rfl) ?_)
  refine rw_nil (hK4 _ _ ?_)
  refine hK2 _ _ ?_
  refine cw_seq fun K5 hK6 => ?_
  refine cw_region fun K7 hK8 => ?_
  refine rw_cons (op_pv (w0 rfl) rfl rfl (pv_move (v := (.slice Ahs nhs chs)) rfl rfl) ?_)
  refine rw_cons (op_pv (w0 rfl) rfl rfl (pv_move (v := (.string s)) rfl rfl) ?_)
  refine rw_cons (op_call (w0 rfl) rfl rfl (rc_call C46 rfl rfl) (l21At_ok _ nhs _ hs s _ (hRhs.more (by omega)) (hDhs.any (by omega)) (by first | assumption | exact SzOK.nil) (by omega)) ?_)
  rintro _ w9 ⟨rfl, hch10⟩
  have hsz11 := hch10.size
  replace hRhs := hRhs.ch0 hch10
  replace hDhs := hDhs.ch0 hch10
  replace hc := hc.step0 hch10
  have hnt12 := place_bds hs s
  refine rw_cons (op_pv (w0 rfl) rfl rfl (pv_assign (v := (.int .i64 (fplace (fvs hs) s))) rfl rfl) ?_)
  refine rw_nil (hK8 _ _ ?_)
  refine hK6 _ _ ?_
  refine cw_seq fun K13 hK14 => ?_
  refine cw_seq fun K15 hK16 => ?_
  refine cw_region fun K17 hK18 => ?_
  refine rw_cons (op_pv (w0 rfl) rfl rfl (pv_move (v := (.slice Ahs nhs chs)) rfl rfl) ?_)
  refine rw_cons (op_call (w0 rfl) rfl rfl (rc_call C32 rfl rfl) (FilesValid_s _ nhs _ hs _ (hRhs.more (by omega)) (hDhs.any (by omega)) (by first | assumption | exact SzOK.nil) (by omega) (by omega)) ?_)
  rintro _ w19 ⟨rfl, hch20⟩
  have hsz21 := hch20.size
  replace hRhs := hRhs.ch0 hch20
  replace hDhs := hDhs.ch0 hch20
  replace hc := hc.step0 hch20
  refine rw_cons (op_pv (w0 rfl) rfl rfl (pv_not rfl rfl) ?_)
  refine rw_cons (op_pv (w0 rfl) rfl rfl (pv_move (v := (.bool (!(dec (FOK (fvs hs)))))) rfl rfl) ?_)
  refine rw_split 16 rfl (fun hb22 => ?_) (fun hb22 => ?_)
  · -- yes
    replace hb22 := not_t hb22
    replace hb22 := dec_f hb22
    refine rw_cons (op_pass (w1n2 rfl rfl rfl rfl) rfl rfl ?_)
    refine rw_cons (op_pass (w1n2 rfl rfl rfl rfl) rfl rfl ?_)
    refine rw_cons (op_pv (w0 rfl) rfl rfl (pv_pickT (v := (.bool true)) rfl rfl rfl) ?_)
    refine rw_nil (hK18 _ _ ?_)
    refine hK16 _ _ ?_
    refine cw_cond rfl (fun h23 => ?_) (fun h23 => ?_)
    · -- then
      clear h23
      refine cw_seq fun K24 hK25 => ?_
      refine cw_region fun K26 hK27 => ?_
      refine rw_cons (op_bslice [] Try.underlying24 T48 (w0 rfl) rfl rfl rfl rfl rfl (by simp [Value.cells]) (by decide) ?_)
      intro g29 w28 hg32 hg33 hK31 hch30
      have hO34 : Own encF 2 w28 w19.heap.size 48 (.slice (some ⟨g29, 0, none⟩) 0 0) ([] : List Fl) := Blk.own (xs := ([] : List Fl)) hK31 (by omega) rfl (by decide) rfl
      have hsz35 := hch30.size
      replace hRhs := hRhs.ch0 hch30
      replace hDhs := hDhs.ch0 hch30
      replace hc := hc.step0 hch30
      have hub36 := hO34.lt
      refine rw_cons (op_bslice [] Try.underlying25 T3 (w0 rfl) rfl rfl rfl rfl rfl (by simp [Value.cells]) (by decide) ?_)
      intro g38 w37 hg41 hg42 hK40 hch39
      have hO43 : Own encI 1 w37 w28.heap.size 3 (.slice (some ⟨g38, 0, none⟩) 0 0) ([] : List Int) := Blk.own (xs := ([] : List Int)) hK40 (by omega) rfl (by decide) rfl
      have hsz44 := hch39.size
      replace hRhs := hRhs.ch0 hch39
      replace hDhs := hDhs.ch0 hch39
      replace hO34 := hO34.ch0 hch39
      replace hc := hc.step0 hch39
      have hub45 := hO43.lt
      have hdj46 : ∀ s ∈ obl (.slice (some ⟨g29, 0, none⟩) 0 0), s ∉ obl (.slice (some ⟨g38, 0, none⟩) 0 0) := fun s hs hs2 => by first | (have h1 := hub36 s hs; have h2 := hO43.off s hs2; omega) | (simp [obl, Value.ownBlock] at hs; done) | (simp [obl, Value.ownBlock] at hs2; done) | (have h1 := hub36 s hs; simp [obl, Value.ownBlock] at hs2; omega)
      refine rw_cons (op_pv (w0 rfl) rfl rfl (pv_assign (v := (.slice (some ⟨g29, 0, none⟩) 0 0)) rfl rfl) ?_)
      refine rw_cons (op_pv (w0 rfl) rfl rfl (pv_assign (v := (.slice (some ⟨g38, 0, none⟩) 0 0)) rfl rfl) ?_)
      refine rw_cons (op_pv (w0 rfl) rfl rfl (pv_assign (v := (.bool false)) rfl rfl) ?_)
      refine rw_nil (hK27 _ _ ?_)
      refine hK25 _ _ ?_
      refine cw_ret ?_
      refine fin3 rfl rfl rfl ?_
      have hno : ¬DropOK (fvs hs) s := by rintro ⟨h1, h2⟩; first | contradiction | omega
      have he_0 : fvs ([] : List Fl) = dropV (fvs hs) s := (dropV_no hno).symm
      have he_1 : ([] : List Int) = dropP (fvs hs) s := (dropP_no hno).symm
      exact ⟨_, _, ([] : List Fl), _, _, _, tup3 (sl_as hO34 rfl) rfl (bvf hno), own_as (xs := ([] : List Fl)) (hO34.less (by omega)) rfl, DX.nil, he_0, (by first | assumption | exact SzOK.nil), (by rw [← he_1]; exact hO43.rs (fun _ => rfl)), hc⟩
    · -- else
      cases h23
  · -- no
    replace hb22 := not_f hb22
    replace hb22 := dec_t hb22
    refine rw_cons (op_pv (w1y rfl rfl rfl rfl) rfl rfl (pv_move (v := (.int .i64 (fplace (fvs hs) s))) rfl rfl) ?_)
    refine rw_cons (op_pv (w1y rfl rfl rfl rfl) rfl rfl (pv_lss rfl rfl rfl) ?_)
    refine rw_cons (op_pv (w0 rfl) rfl rfl (pv_pickF (v := (.bool (decide ((fplace (fvs hs) s) < 0)))) rfl rfl rfl) ?_)
    refine rw_nil (hK18 _ _ ?_)
    refine hK16 _ _ ?_
    refine cw_cond rfl (fun h47 => ?_) (fun h47 => ?_)
    · -- then
      replace h47 := of_decide_eq_true h47
      refine cw_seq fun K48 hK49 => ?_
      refine cw_region fun K50 hK51 => ?_
      refine rw_cons (op_bslice [] Try.underlying24 T48 (w0 rfl) rfl rfl rfl rfl rfl (by simp [Value.cells]) (by decide) ?_)
      intro g53 w52 hg56 hg57 hK55 hch54
      have hO58 : Own encF 2 w52 w19.heap.size 48 (.slice (some ⟨g53, 0, none⟩) 0 0) ([] : List Fl) := Blk.own (xs := ([] : List Fl)) hK55 (by omega) rfl (by decide) rfl
      have hsz59 := hch54.size
      replace hRhs := hRhs.ch0 hch54
      replace hDhs := hDhs.ch0 hch54
      replace hc := hc.step0 hch54
      have hub60 := hO58.lt
      refine rw_cons (op_bslice [] Try.underlying25 T3 (w0 rfl) rfl rfl rfl rfl rfl (by simp [Value.cells]) (by decide) ?_)
      intro g62 w61 hg65 hg66 hK64 hch63
      have hO67 : Own encI 1 w61 w52.heap.size 3 (.slice (some ⟨g62, 0, none⟩) 0 0) ([] : List Int) := Blk.own (xs := ([] : List Int)) hK64 (by omega) rfl (by decide) rfl
      have hsz68 := hch63.size
      replace hRhs := hRhs.ch0 hch63
      replace hDhs := hDhs.ch0 hch63
      replace hO58 := hO58.ch0 hch63
      replace hc := hc.step0 hch63
      have hub69 := hO67.lt
      have hdj70 : ∀ s ∈ obl (.slice (some ⟨g53, 0, none⟩) 0 0), s ∉ obl (.slice (some ⟨g62, 0, none⟩) 0 0) := fun s hs hs2 => by first | (have h1 := hub60 s hs; have h2 := hO67.off s hs2; omega) | (simp [obl, Value.ownBlock] at hs; done) | (simp [obl, Value.ownBlock] at hs2; done) | (have h1 := hub60 s hs; simp [obl, Value.ownBlock] at hs2; omega)
      refine rw_cons (op_pv (w0 rfl) rfl rfl (pv_assign (v := (.slice (some ⟨g53, 0, none⟩) 0 0)) rfl rfl) ?_)
      refine rw_cons (op_pv (w0 rfl) rfl rfl (pv_assign (v := (.slice (some ⟨g62, 0, none⟩) 0 0)) rfl rfl) ?_)
      refine rw_cons (op_pv (w0 rfl) rfl rfl (pv_assign (v := (.bool false)) rfl rfl) ?_)
      refine rw_nil (hK51 _ _ ?_)
      refine hK49 _ _ ?_
      refine cw_ret ?_
      refine fin3 rfl rfl rfl ?_
      have hno : ¬DropOK (fvs hs) s := by rintro ⟨h1, h2⟩; first | contradiction | omega
      have he_0 : fvs ([] : List Fl) = dropV (fvs hs) s := (dropV_no hno).symm
      have he_1 : ([] : List Int) = dropP (fvs hs) s := (dropP_no hno).symm
      exact ⟨_, _, ([] : List Fl), _, _, _, tup3 (sl_as hO58 rfl) rfl (bvf hno), own_as (xs := ([] : List Fl)) (hO58.less (by omega)) rfl, DX.nil, he_0, (by first | assumption | exact SzOK.nil), (by rw [← he_1]; exact hO67.rs (fun _ => rfl)), hc⟩
    · -- else
      replace h47 := of_decide_eq_false h47
      refine cw_skip ?_
      refine hK14 _ _ ?_
      refine cw_seq fun K71 hK72 => ?_
      obtain ⟨p, hp⟩ : ∃ p : Nat, fplace (fvs hs) s = (p : Int) := ⟨(fplace (fvs hs) s).toNat, by omega⟩
      rw [hp]
      have hpn : p < nhs := by have := place_bds hs s; omega
      refine cw_region fun K73 hK74 => ?_
      refine rw_cons (op_pv (w0 rfl) rfl rfl (pv_move (v := (.slice Ahs nhs chs)) rfl rfl) ?_)
      refine rw_cons (op_call (w0 rfl) rfl rfl (rc_call C47 rfl rfl) (l21Copy_ok _ nhs _ hs _ (hRhs.more (by omega)) (hDhs.any (by omega)) (by first | assumption | exact SzOK.nil) (by omega)) ?_)
      rintro _ w75 ⟨A77, c78, hs79, rfl, hO80, hDO81, hfe82, hZ83, hch76⟩
      have hsz84 := hch76.size
      replace hRhs := hRhs.ch0 hch76
      replace hDhs := hDhs.ch0 hch76
      replace hc := hc.step0 hch76
      have hub85 := hO80.lt
      have hcap86 : hs79.length ≤ c78 := by obtain ⟨_, _, hv, h1, _⟩ := hO80.form; injection hv with _ _ h3; omega
      have hfl87 : hs79.length = (fvs hs).length := by rw [← hfe82, fvs_len]
      try simp only [fvs_len, List.length_take, List.length_drop] at hfl87
      refine rw_cons (op_pv (w0 rfl) rfl rfl (pv_assign (v := (.slice A77 hs79.length c78)) rfl rfl) ?_)
      refine rw_nil (hK74 _ _ ?_)
      refine hK72 _ _ ?_
      refine cw_seq fun K88 hK89 => ?_
      refine cw_region fun K90 hK91 => ?_
      refine rw_cons (op_pv (w0 rfl) rfl rfl (pv_move (v := (.slice A77 hs79.length c78)) rfl rfl) ?_)
      refine rw_cons (op_pv (w0 rfl) rfl rfl (pv_move (v := (.int .i64 (p : Int))) rfl rfl) ?_)
      refine rw_cons (op_pv (w0 rfl) rfl rfl (pv_idx Try.underlying24 T48 rfl rfl rfl ((hO80.rs (fun _ => rfl)).some (k := p) (by omega)) (by omega) (by omega)) ?_)
      refine rw_cons (op_pv (w0 rfl) rfl rfl (pv_fld F48_1 rfl rfl) ?_)
      have hR92 : RS encI 1 w75 w75.heap.size (el hs79 p).A (el hs79 p).n (el hs79 p).ps := hDO81.rs (k := p) (by omega)
      have hln93 := hR92.len
      refine rw_cons (op_lv (w0 rfl) rfl rfl (lv_load T25 rfl rfl ((hO80.rs (fun _ => rfl)).cellE (k := p) (j := 1) (by omega) rfl)) ?_)
      refine rw_cons (op_pv (w0 rfl) rfl rfl (pv_assign (v := (.slice (el hs79 p).A (el hs79 p).n (el hs79 p).c)) rfl rfl) ?_)
      refine rw_nil (hK91 _ _ ?_)
      refine hK89 _ _ ?_
      refine cw_seq fun K94 hK95 => ?_
      clear hR92
      refine cw_drawn (fun u => Ch (obl (.slice A77 hs79.length c78)) w75 u) (.free 0 (.free 1 (.free 2 (.free 3 (.free 4 (.free 5 (.free 6 (.free 8 (.one 7 true (.free 9 (.free 10 (.free 11 (.done))))))))))))) (by kernel_rfl) (by kernel_rfl) (Ch.refl _ _).drew fun K99 hK100 => ?_
      obtain ⟨w96, hw_, hch97, hsz98⟩ : ∃ w1 : World, w1 = w75.drew ∧ Ch [] w75 w1 ∧ w1.heap.size = w75.heap.size := ⟨_, rfl, (Ch.refl _ _).drew, rfl⟩
      rw [← hw_]; clear hw_
      have hr101 : Ch (obl (.slice A77 hs79.length c78)) w75 w96 := hch97.sub (fun s hs => by cases hs)
      have hRhs_r := hRhs
      have hDhs_r := hDhs
      have hO80_r := hO80
      have hDO81_r := hDO81
      have hsz102 := hch97.size
      replace hRhs := hRhs.ch0 hch97
      replace hDhs := hDhs.ch0 hch97
      replace hO80 := hO80.ch0 hch97
      replace hDO81 := hDO81.ch0 hch97
      replace hc := hc.step0 hch97
      refine tw_free rfl (w0 rfl) rfl rfl (fun u hu => (pv_move (v := (.slice A77 hs79.length c78)) rfl rfl : PV _ _ _ _) u) ?_
      refine tw_free rfl (w0 rfl) rfl rfl (fun u hu => (pv_move (v := (.int .i64 (p : Int))) rfl rfl : PV _ _ _ _) u) ?_
      refine tw_free rfl (w0 rfl) rfl rfl (fun u hu => (pv_upto Try.underlying24 T48 rfl rfl rfl (by omega) (by omega) : PV _ _ _ _) u) ?_
      have hR103 : RS encF 2 w96 w96.heap.size A77 p (hs79.take p) := ((hO80.rs (fun _ => rfl))).upto (by omega)
      have hD104 : DX w19.heap.size w75.heap.size (obl (.slice A77 hs79.length c78)) w96 (hs79.take p) := (hDO81.dx).take p
      have hZ105 : SzOK (hs79.take p) := SzOK.take (by assumption) p
      refine tw_free rfl (w0 rfl) rfl rfl (fun u hu => (pv_move (v := (.slice A77 hs79.length c78)) rfl rfl : PV _ _ _ _) u) ?_
      refine tw_free rfl (w0 rfl) rfl rfl (fun u hu => (pv_move (v := (.int .i64 (p : Int))) rfl rfl : PV _ _ _ _) u) ?_
      refine tw_free rfl (w0 rfl) rfl rfl (fun u hu => (pv_add rfl rfl rfl (by omega) (by omega) : PV _ _ _ _) u) ?_
      refine tw_free rfl (w0 rfl) rfl rfl (fun u hu => (pv_from Try.underlying24 T48 rfl rfl rfl (by omega) (by omega) : PV _ _ _ _) u) ?_
      have hR106 : RS encF 2 w96 w96.heap.size (if c78 = (p + 1) then A77 else (A77 : Option Addr).map (·.add ((p + 1) * 2))) (hs79.length - (p + 1)) (hs79.drop (p + 1)) := ((hO80.rs (fun _ => rfl))).from (by omega) (by omega)
      have hD107 : DX w19.heap.size w75.heap.size (obl (.slice A77 hs79.length c78)) w96 (hs79.drop (p + 1)) := (hDO81.dx).drop (p + 1)
      have hZ108 : SzOK (hs79.drop (p + 1)) := SzOK.drop (by assumption) (p + 1)
      refine tw_free rfl (w0 rfl) rfl rfl (fun u hu => (pv_move (v := (.slice (el hs79 p).A (el hs79 p).n (el hs79 p).c)) rfl rfl : PV _ _ _ _) u) ?_
      replace hO80 := hO80.upto (fun _ => rfl) (k := p) (by omega)
      have hub109 := hO80.lt
      clear hD107
      clear hD104
      refine tw_one rfl (op_append Try.underlying24 T48 (fun _ => rfl) rfl (by decide) (fun _ => one_all rfl) (w0 rfl) rfl rfl rfl rfl rfl hO80 hR106 (by unfold maxLen; first | omega | (simp; omega)) (by first | omega | (simp; omega)) (by omega) ?_)
      rintro v110 w111 hO112 hch113 hs114
      have hl115 : ((hs79.take p) ++ (hs79.drop (p + 1))).length = p + (hs79.length - (p + 1)) := by first | (have hl0 := hR106.len; omega) | (have hl0 := hR106.len; simp only [List.length_append, List.length_cons, List.length_nil] at hl0 ⊢; omega) | (simp; omega; done) | simp | rfl
      have hsz116 := hch113.size
      replace hRhs := hRhs.ch hch113 (hO80.off.le (by omega))
      replace hDhs := hDhs.ch hch113 (fun s hs => by first | exact .inr (.inl hs) | exact .inr (.inl (obl_any hs)) | exact .inr (.inr (Nat.le_trans (by omega) (hO80.off s hs))) | exact .inl (Nat.lt_of_lt_of_le (hub109 s hs) (by omega)))
      replace hDO81 := hDO81.ch hch113 (fun s hs => by first | exact .inr (.inl hs) | exact .inr (.inl (obl_any hs)) | exact .inr (.inr (Nat.le_trans (by omega) (hO80.off s hs))) | exact .inl (Nat.lt_of_lt_of_le (hub109 s hs) (by omega)))
      clear hR103
      clear hR106
      replace hc := (hO80.off.le (by omega)).step hc hch113
      replace hr101 := hr101.step hch113 (fun s hs => .inl (obl_any hs))
      have hub117 := hO112.lt
      obtain ⟨A118, c119, hv120, hcap121, hcap122⟩ := hO112.form; subst hv120
      refine ⟨fun _ => hr101, ?_⟩
      have hDO123 : DX w19.heap.size w75.heap.size (obl (.slice A77 hs79.length c78)) w111 ((hs79.take p) ++ (hs79.drop (p + 1))) := (hDO81.dx.take p).app (hDO81.dx.drop (p + 1))
      have hZ124 : SzOK ((hs79.take p) ++ (hs79.drop (p + 1))) := (SzOK.take ‹SzOK hs79› _).app (SzOK.drop ‹SzOK hs79› _)
      refine tw_free rfl (w0 rfl) rfl rfl (fun u hu => (pv_assign (v := (.slice A118 ((hs79.take p) ++ (hs79.drop (p + 1))).length c119)) rfl rfl : PV _ _ _ _) u) ?_
      refine tw_free rfl (w0 rfl) rfl rfl (fun u hu => (pv_assign (v := (.slice (el hs79 p).A (el hs79 p).n (el hs79 p).c)) rfl rfl : PV _ _ _ _) u) ?_
      refine tw_free rfl (w0 rfl) rfl rfl (fun u hu => (pv_assign (v := (.bool true)) rfl rfl : PV _ _ _ _) u) ?_
      try clear hDO81_r
      try clear hDhs_r
      try clear hO80_r
      try clear hRhs_r
      refine tw_done (hK100 _ _ ?_)
      refine hK95 _ _ ?_
      refine cw_ret ?_
      refine fin3 rfl rfl rfl ?_
      have hyes : DropOK (fvs hs) s := ⟨by assumption, by omega⟩
      have he_0 : fvs ((hs79.take p) ++ (hs79.drop (p + 1))) = dropV (fvs hs) s := by rw [dropV_yes hyes, dropF_eq hp, fvs_app, fvs_take, fvs_drop, hfe82]
      have he_1 : (el hs79 p).ps = dropP (fvs hs) s := (by rw [dropP_eq hyes hp, ← hfe82, el_fvs (by omega)]; rfl)
      exact ⟨_, _, ((hs79.take p) ++ (hs79.drop (p + 1))), _, _, _, tup3 (sl_as hO112 rfl) rfl (bvt hyes), own_as (xs := ((hs79.take p) ++ (hs79.drop (p + 1)))) (hO112.less (by omega)) rfl, ((hDO123.less (by omega)).bare (by omega)), he_0, (by first | assumption | exact SzOK.nil), (by rw [← he_1]; exact (hDO81.rs (k := p) (by omega)).more (by omega)), hc⟩
end Go.Proofs.Ythgnlljpjpklpaa

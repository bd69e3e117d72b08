/-
  The walk of spec.FileGrow, written by program: each line names the law of one operation. Conditions: those of the theorem.
-/
import Derived.Test.YthgnlljpjpklpaaProg
import Derived.Test.YthgnlljpjpklpaaDeep
import Derived.Test.YthgnlljpjpklpaaFlaw
import Derived.Test.YthgnlljpjpklpaaFops
import Derived.Test.YthgnlljpjpklpaaFspecFilesValid
import Derived.Test.YthgnlljpjpklpaaFspecl21At
import Derived.Test.YthgnlljpjpklpaaFspecl21Copy
import Derived.Test.YthgnlljpjpklpaaFspecl21Many
import Derived.KernelRfl
namespace Go.Proofs.Ythgnlljpjpklpaa
open Go Go.RowKit
set_option linter.unusedVariables false
set_option linter.unusedSimpArgs false
namespace FileGrow_sF
theorem T3 : TI Try.prog 3 false (.int .i64 0) 1 8 := TI.mk' Try.underlying3 rfl (by kernel_rfl)
theorem T25 : TI Try.prog 25 false (.slice none 0 0) 1 24 := TI.mk' Try.underlying25 rfl (by kernel_rfl)
theorem T48 : TI Try.prog 48 true (.agg #[.string { data := #[] }, .slice none 0 0]) 2 40 := TI.mk' Try.underlying48 rfl (by kernel_rfl)
theorem F48_1 : FldOK Try.prog 48 1 1 := ⟨_, _, 0, Try.underlying48, rfl, rfl, by kernel_rfl⟩
theorem C32 : Callable Try.prog 32 := ⟨_, Try.func32, by kernel_rfl, by kernel_rfl⟩
theorem C46 : Callable Try.prog 46 := ⟨_, Try.func46, by kernel_rfl, by kernel_rfl⟩
theorem C47 : Callable Try.prog 47 := ⟨_, Try.func47, by kernel_rfl, by kernel_rfl⟩
theorem C59 : Callable Try.prog 59 := ⟨_, Try.func59, by kernel_rfl, by kernel_rfl⟩
end FileGrow_sF
open FileGrow_sF in
set_option maxHeartbeats 4000000 in
theorem FileGrow_s (Ahs : Option Addr) (nhs chs : Nat) (hs : List Fl) (s : ByteArray) (w : World) (hRhs : RS encF 2 w w.heap.size Ahs nhs hs) (hDhs : DX 0 w.heap.size [] w hs) (hZhs : SzOK hs) (hNhs : nhs ≤ 1099511627776) (h8 : nhs ≤ 1048576) :
    Fn Try.prog 33 [(.slice Ahs nhs chs), (.string s)] w fun v w' => ∃ A_0 c_0 h_0, v = .tuple #[.slice A_0 h_0.length c_0, .int .i64 (growN (fvs hs) s), .bool (dec (GrowOK (fvs hs) s))] ∧ Own encF 2 w' w.heap.size 48 (.slice A_0 h_0.length c_0) h_0 ∧ DOw w.heap.size w'.heap.size (obl (.slice A_0 h_0.length c_0)) 3 w' h_0 ∧ fvs h_0 = growV (fvs hs) s ∧ SzOK h_0 ∧ Ch [] w w' := by
  have hlenhs := hRhs.len
  refine fn_of (n := 47) Try.func33 rfl rfl rfl rfl ?_
  have hc : Ch [] w w := Ch.refl _ _
  refine cw_seq fun K1 hK2 => ?_
  refine cw_region fun K3 hK4 => ?_
  refine rw_cons (op_pv (w0 rfl) rfl rfl (pv_assign (v := (.slice none 0 0)) rfl rfl) ?_)
  refine rw_cons (op_pv (w0 rfl) rfl rfl (pv_assign (v := (.int .i64 0)) rfl rfl) ?_)
  refine rw_cons (op_pv (w0 rfl) rfl rfl (pv_assign (v := (.bool false)) rfl rfl) ?_)
  refine rw_nil (hK4 _ _ ?_)
  refine hK2 _ _ ?_
  refine cw_seq fun K5 hK6 => ?_
  refine cw_region fun K7 hK8 => ?_
  refine rw_cons (op_pv (w0 rfl) rfl rfl (pv_move (v := (.slice Ahs nhs chs)) rfl rfl) ?_)
  refine rw_cons (op_pv (w0 rfl) rfl rfl (pv_move (v := (.string s)) rfl rfl) ?_)
  refine rw_cons (op_call (w0 rfl) rfl rfl (rc_call C46 rfl rfl) (l21At_ok _ nhs _ hs s _ (hRhs.more (by omega)) (hDhs.any (by omega)) (by first | assumption | exact SzOK.nil) (by omega)) ?_)
  rintro _ w9 ⟨rfl, hch10⟩
  have hsz11 := hch10.size
  replace hRhs := hRhs.ch0 hch10
  replace hDhs := hDhs.ch0 hch10
  replace hc := hc.step0 hch10
  have hnt12 := place_bds hs s
  refine rw_cons (op_pv (w0 rfl) rfl rfl (pv_assign (v := (.int .i64 (fplace (fvs hs) s))) rfl rfl) ?_)
  refine rw_nil (hK8 _ _ ?_)
  refine hK6 _ _ ?_
  refine cw_seq fun K13 hK14 => ?_
  refine cw_seq fun K15 hK16 => ?_
  refine cw_region fun K17 hK18 => ?_
  refine rw_cons (op_pv (w0 rfl) rfl rfl (pv_move (v := (.slice Ahs nhs chs)) rfl rfl) ?_)
  refine rw_cons (op_call (w0 rfl) rfl rfl (rc_call C32 rfl rfl) (FilesValid_s _ nhs _ hs _ (hRhs.more (by omega)) (hDhs.any (by omega)) (by first | assumption | exact SzOK.nil) (by omega) (by omega)) ?_)
  rintro _ w19 ⟨rfl, hch20⟩
  have hsz21 := hch20.size
  replace hRhs := hRhs.ch0 hch20
  replace hDhs := hDhs.ch0 hch20
  replace hc := hc.step0 hch20
  refine rw_cons (op_pv (w0 rfl) rfl rfl (pv_not rfl rfl) ?_)
  refine rw_cons (op_pv (w0 rfl) rfl rfl (pv_move (v := (.bool (!(dec (FOK (fvs hs)))))) rfl rfl) ?_)
  refine rw_split 16 rfl (fun hb22 => ?_) (fun hb22 => ?_)
  · -- yes
    replace hb22 := not_t hb22
    replace hb22 := dec_f hb22
    refine rw_cons (op_pass (w1n2 rfl rfl rfl rfl) rfl rfl ?_)
    refine rw_cons (op_pass (w1n2 rfl rfl rfl rfl) rfl rfl ?_)
    refine rw_cons (op_pv (w0 rfl) rfl rfl (pv_pickT (v := (.bool true)) rfl rfl rfl) ?_)
    refine rw_nil (hK18 _ _ ?_)
    refine hK16 _ _ ?_
    refine cw_cond rfl (fun h23 => ?_) (fun h23 => ?_)
    · -- then
      clear h23
      refine cw_seq fun K24 hK25 => ?_
      refine cw_region fun K26 hK27 => ?_
      refine rw_cons (op_bslice [] Try.underlying24 T48 (w0 rfl) rfl rfl rfl rfl rfl (by simp [Value.cells]) (by decide) ?_)
      intro g29 w28 hg32 hg33 hK31 hch30
      have hO34 : Own encF 2 w28 w19.heap.size 48 (.slice (some ⟨g29, 0, none⟩) 0 0) ([] : List Fl) := Blk.own (xs := ([] : List Fl)) hK31 (by omega) rfl (by decide) rfl
      have hsz35 := hch30.size
      replace hRhs := hRhs.ch0 hch30
      replace hDhs := hDhs.ch0 hch30
      replace hc := hc.step0 hch30
      have hub36 := hO34.lt
      refine rw_cons (op_pv (w0 rfl) rfl rfl (pv_assign (v := (.slice (some ⟨g29, 0, none⟩) 0 0)) rfl rfl) ?_)
      refine rw_cons (op_pv (w0 rfl) rfl rfl (pv_assign (v := (.int .i64 0)) rfl rfl) ?_)
      refine rw_cons (op_pv (w0 rfl) rfl rfl (pv_assign (v := (.bool false)) rfl rfl) ?_)
      refine rw_nil (hK27 _ _ ?_)
      refine hK25 _ _ ?_
      refine cw_ret ?_
      refine fin3 rfl rfl rfl ?_
      have hno : ¬GrowOK (fvs hs) s := by rintro ⟨h1, h2, h3⟩; first | contradiction | omega | (rw [← hgv] at h3; contradiction)
      have he_0 : fvs ([] : List Fl) = growV (fvs hs) s := (growV_no hno).symm
      exact ⟨_, _, ([] : List Fl), tup3 (sl_as hO34 rfl) (iv (growN_no hno).symm) (bvf hno), own_as (xs := ([] : List Fl)) (hO34.less (by omega)) rfl, DOw.nil, he_0, (by first | assumption | exact SzOK.nil), hc⟩
    · -- else
      cases h23
  · -- no
    replace hb22 := not_f hb22
    replace hb22 := dec_t hb22
    refine rw_cons (op_pv (w1y rfl rfl rfl rfl) rfl rfl (pv_move (v := (.int .i64 (fplace (fvs hs) s))) rfl rfl) ?_)
    refine rw_cons (op_pv (w1y rfl rfl rfl rfl) rfl rfl (pv_lss rfl rfl rfl) ?_)
    refine rw_cons (op_pv (w0 rfl) rfl rfl (pv_pickF (v := (.bool (decide ((fplace (fvs hs) s) < 0)))) rfl rfl rfl) ?_)
    refine rw_nil (hK18 _ _ ?_)
    refine hK16 _ _ ?_
    refine cw_cond rfl (fun h37 => ?_) (fun h37 => ?_)
    · -- then
      replace h37 := of_decide_eq_true h37
      refine cw_seq fun K38 hK39 => ?_
      refine cw_region fun K40 hK41 => ?_
      refine rw_cons (op_bslice [] Try.underlying24 T48 (w0 rfl) rfl rfl rfl rfl rfl (by simp [Value.cells]) (by decide) ?_)
      intro g43 w42 hg46 hg47 hK45 hch44
      have hO48 : Own encF 2 w42 w19.heap.size 48 (.slice (some ⟨g43, 0, none⟩) 0 0) ([] : List Fl) := Blk.own (xs := ([] : List Fl)) hK45 (by omega) rfl (by decide) rfl
      have hsz49 := hch44.size
      replace hRhs := hRhs.ch0 hch44
      replace hDhs := hDhs.ch0 hch44
      replace hc := hc.step0 hch44
      have hub50 := hO48.lt
      refine rw_cons (op_pv (w0 rfl) rfl rfl (pv_assign (v := (.slice (some ⟨g43, 0, none⟩) 0 0)) rfl rfl) ?_)
      refine rw_cons (op_pv (w0 rfl) rfl rfl (pv_assign (v := (.int .i64 0)) rfl rfl) ?_)
      refine rw_cons (op_pv (w0 rfl) rfl rfl (pv_assign (v := (.bool false)) rfl rfl) ?_)
      refine rw_nil (hK41 _ _ ?_)
      refine hK39 _ _ ?_
      refine cw_ret ?_
      refine fin3 rfl rfl rfl ?_
      have hno : ¬GrowOK (fvs hs) s := by rintro ⟨h1, h2, h3⟩; first | contradiction | omega | (rw [← hgv] at h3; contradiction)
      have he_0 : fvs ([] : List Fl) = growV (fvs hs) s := (growV_no hno).symm
      exact ⟨_, _, ([] : List Fl), tup3 (sl_as hO48 rfl) (iv (growN_no hno).symm) (bvf hno), own_as (xs := ([] : List Fl)) (hO48.less (by omega)) rfl, DOw.nil, he_0, (by first | assumption | exact SzOK.nil), hc⟩
    · -- else
      replace h37 := of_decide_eq_false h37
      refine cw_skip ?_
      refine hK14 _ _ ?_
      refine cw_seq fun K51 hK52 => ?_
      obtain ⟨p, hp⟩ : ∃ p : Nat, fplace (fvs hs) s = (p : Int) := ⟨(fplace (fvs hs) s).toNat, by omega⟩
      rw [hp]
      have hpn : p < nhs := by have := place_bds hs s; omega
      refine cw_region fun K53 hK54 => ?_
      refine rw_cons (op_pv (w0 rfl) rfl rfl (pv_assign (v := (.int .i64 1)) rfl rfl) ?_)
      refine rw_nil (hK54 _ _ ?_)
      refine hK52 _ _ ?_
      refine cw_seq fun K55 hK56 => ?_
      refine cw_block ?_
      refine cw_loop (σ := Nat) (fun k => [(8, (.int .i64 ((k : Int) + 1))), (0, (.slice Ahs nhs chs)), (4, (.slice none 0 0)), (5, (.int .i64 0)), (6, (.bool false)), (7, (.int .i64 (p : Int)))]) (fun k W => (k ≤ 99 ∧ ∀ j : Int, 1 ≤ j → j < (k : Int) + 1 → j ∈ pcs (fvs hs)) ∧ RS encF 2 W w.heap.size Ahs nhs hs ∧ DX 0 w.heap.size ([]) W hs ∧ Ch [] w W) (fun k => 100 - k) 0 ?_ ?_ ?_
      · exact ⟨(iv (by omega)), rfl, rfl, rfl, rfl, rfl, trivial⟩
      · refine ⟨⟨by omega, fun j h1 h2 => by omega⟩, hRhs, hDhs, hc⟩
      · rintro k J61 w57 ⟨⟨hk, hye⟩, hRhs, hDhs, hc⟩ K58 hK59
        have hsz63 := hc.size
        refine cw_seq fun K64 hK65 => ?_
        refine cw_seq fun K66 hK67 => ?_
        refine cw_region fun K68 hK69 => ?_
        refine rw_cons (op_pv (w0 rfl) rfl rfl (pv_move (v := (.slice Ahs nhs chs)) rfl rfl) ?_)
        refine rw_cons (op_pv (w0 rfl) rfl rfl (pv_move (v := (.int .i64 ((k : Int) + 1))) rfl rfl) ?_)
        refine rw_cons (op_call (w0 rfl) rfl rfl (rc_call C59 rfl rfl) (l21Many_ok _ nhs _ hs ((k : Int) + 1) _ (hRhs.more (by omega)) (hDhs.any (by omega)) (by first | assumption | exact SzOK.nil) (by omega) (by omega)) ?_)
        rintro _ w70 ⟨rfl, hch71⟩
        have hsz72 := hch71.size
        replace hRhs := hRhs.ch0 hch71
        replace hDhs := hDhs.ch0 hch71
        replace hc := hc.step0 hch71
        refine rw_cons (op_pv (w0 rfl) rfl rfl (pv_gtr rfl rfl rfl) ?_)
        refine rw_nil (hK69 _ _ ?_)
        refine hK67 _ _ ?_
        refine cw_cond rfl (fun h73 => ?_) (fun h73 => ?_)
        · -- then
          replace h73 := of_decide_eq_true h73
          refine cw_skip ?_
          refine hK65 _ _ ?_
          refine cw_block ?_
          have hin : (k : Int) + 1 ∈ pcs (fvs hs) := List.count_pos_iff.1 (show 0 < many (fvs hs) ((k : Int) + 1) by omega)
          have h99b := pcs_bd ‹FOK (fvs hs)› hin
          refine cw_region fun K74 hK75 => ?_
          refine rw_cons (op_pv (w0 rfl) rfl rfl (pv_move (v := (.int .i64 ((k : Int) + 1))) rfl rfl) ?_)
          refine rw_cons (op_pv (w0 rfl) rfl rfl (pv_add rfl rfl rfl (by omega) (by omega)) ?_)
          refine rw_cons (op_pv (w0 rfl) rfl rfl (pv_assign (v := (.int .i64 (((k : Int) + 1) + 1))) rfl rfl) ?_)
          refine rw_nil (hK75 _ _ ?_)
          refine hK59 _ _ (k + 1) ⟨(iv (by omega)), rfl, rfl, rfl, rfl, rfl, trivial⟩ ⟨?_, hRhs, hDhs, hc⟩ ?_
          · have h99 := pcs_bd ‹FOK (fvs hs)› hin
            exact ⟨by omega, fun j h1 h2 => by by_cases e : j = (k : Int) + 1; (rw [e]; exact hin); exact hye j h1 (by omega)⟩
          · (first | omega | (simp only []; omega))
        · -- else
          replace h73 := of_decide_eq_false h73
          refine cw_exit ?_
          refine hK56 _ _ ?_
          refine cw_seq fun K76 hK77 => ?_
          have hleast : IsLeast (pcs (fvs hs)) ((k : Int) + 1) := ⟨by omega, fun h9 => by have h8 := List.count_pos_iff.2 h9; have h7 : ¬ 0 < many (fvs hs) ((k : Int) + 1) := (by omega); exact h7 h8, hye⟩
          refine cw_region fun K78 hK79 => ?_
          refine rw_cons (op_pv (w0 rfl) rfl rfl (pv_move (v := (.slice Ahs nhs chs)) rfl rfl) ?_)
          refine rw_cons (op_call (w0 rfl) rfl rfl (rc_call C47 rfl rfl) (l21Copy_ok _ nhs _ hs _ (hRhs.more (by omega)) (hDhs.any (by omega)) (by first | assumption | exact SzOK.nil) (by omega)) ?_)
          rintro _ w80 ⟨A82, c83, hs84, rfl, hO85, hDO86, hfe87, hZ88, hch81⟩
          have hsz89 := hch81.size
          replace hRhs := hRhs.ch0 hch81
          replace hDhs := hDhs.ch0 hch81
          replace hc := hc.step0 hch81
          have hub90 := hO85.lt
          have hcap91 : hs84.length ≤ c83 := by obtain ⟨_, _, hv, h1, _⟩ := hO85.form; injection hv with _ _ h3; omega
          have hfl92 : hs84.length = (fvs hs).length := by rw [← hfe87, fvs_len]
          try simp only [fvs_len, List.length_take, List.length_drop] at hfl92
          refine rw_cons (op_pv (w0 rfl) rfl rfl (pv_assign (v := (.slice A82 hs84.length c83)) rfl rfl) ?_)
          refine rw_nil (hK79 _ _ ?_)
          refine hK77 _ _ ?_
          refine cw_seq fun K93 hK94 => ?_
          refine cw_region fun K95 hK96 => ?_
          refine rw_cons (op_pv (w0 rfl) rfl rfl (pv_move (v := (.slice A82 hs84.length c83)) rfl rfl) ?_)
          refine rw_cons (op_pv (w0 rfl) rfl rfl (pv_move (v := (.int .i64 (p : Int))) rfl rfl) ?_)
          refine rw_cons (op_pv (w0 rfl) rfl rfl (pv_move (v := (.slice A82 hs84.length c83)) rfl rfl) ?_)
          refine rw_cons (op_pv (w0 rfl) rfl rfl (pv_move (v := (.int .i64 (p : Int))) rfl rfl) ?_)
          refine rw_cons (op_pv (w0 rfl) rfl rfl (pv_idx Try.underlying24 T48 rfl rfl rfl ((hO85.rs (fun _ => rfl)).some (k := p) (by omega)) (by omega) (by omega)) ?_)
          refine rw_cons (op_pv (w0 rfl) rfl rfl (pv_fld F48_1 rfl rfl) ?_)
          have hR97 : RS encI 1 w80 w80.heap.size (el hs84 p).A (el hs84 p).n (el hs84 p).ps := hDO86.rs (k := p) (by omega)
          have hln98 := hR97.len
          refine rw_cons (op_lv (w0 rfl) rfl rfl (lv_load T25 rfl rfl ((hO85.rs (fun _ => rfl)).cellE (k := p) (j := 1) (by omega) rfl)) ?_)
          clear hR97
          have hP99 := hDO86.own p (by omega)
          have hub100 := hP99.lt
          have hPl := (hP99.rs (fun _ => rfl)).len
          have hP4 := fok_n ‹FOK (fvs hs)› hfe87 (p := p) (by omega)
          have hPz := ‹SzOK hs84› p (by omega)
          have hdj101 : ∀ s ∈ obl (.slice A82 hs84.length c83), s ∉ obl (.slice (el hs84 p).A (el hs84 p).n (el hs84 p).c) := fun s h1 h2 => (hDO86.off p (by omega) s h2).1 h1
          refine rw_cons (op_pv (w0 rfl) rfl rfl (pv_move (v := (.int .i64 ((k : Int) + 1))) rfl rfl) ?_)
          refine rw_cons (op_bslice [(.int .i64 ((k : Int) + 1))] Try.underlying25 T3 (w0 rfl) rfl rfl rfl rfl rfl (by simp [Value.cells]) (by decide) ?_)
          intro g103 w102 hg106 hg107 hK105 hch104
          have hO108 : Own encI 1 w102 w80.heap.size 3 (.slice (some ⟨g103, 0, none⟩) 1 1) ([(k : Int) + 1] : List Int) := Blk.own (xs := ([(k : Int) + 1] : List Int)) hK105 (by omega) rfl (by decide) rfl
          have hsz109 := hch104.size
          replace hRhs := hRhs.ch0 hch104
          replace hDhs := hDhs.ch0 hch104
          replace hO85 := hO85.ch0 hch104
          replace hDO86 := hDO86.ch0 hch104
          replace hP99 := hP99.ch0 hch104
          replace hc := hc.step0 hch104
          have hub110 := hO108.lt
          have hdj111 : ∀ s ∈ obl (.slice A82 hs84.length c83), s ∉ obl (.slice (some ⟨g103, 0, none⟩) 1 1) := fun s hs hs2 => by first | (have h1 := hub90 s hs; have h2 := hO108.off s hs2; omega) | (simp [obl, Value.ownBlock] at hs; done) | (simp [obl, Value.ownBlock] at hs2; done) | (have h1 := hub90 s hs; simp [obl, Value.ownBlock] at hs2; omega)
          have hdj112 : ∀ s ∈ obl (.slice (el hs84 p).A (el hs84 p).n (el hs84 p).c), s ∉ obl (.slice (some ⟨g103, 0, none⟩) 1 1) := fun s hs hs2 => by first | (have h1 := hub100 s hs; have h2 := hO108.off s hs2; omega) | (simp [obl, Value.ownBlock] at hs; done) | (simp [obl, Value.ownBlock] at hs2; done) | (have h1 := hub100 s hs; simp [obl, Value.ownBlock] at hs2; omega)
          refine rw_cons (op_append Try.underlying25 T3 (fun _ => rfl) rfl (by decide) (fun _ => one_all rfl) (w0 rfl) rfl rfl rfl rfl rfl hP99 (hO108.rs (fun _ => rfl)) (by unfold maxLen; first | omega | (simp; omega)) (by first | omega | (simp; omega)) (by omega) ?_)
          rintro v113 w114 hO115 hch116 hs117
          have hl118 : ((el hs84 p).ps ++ ([(k : Int) + 1] : List Int)).length = (el hs84 p).n + 1 := by first | (have hl0 := (hO108.rs (fun _ => rfl)).len; omega) | (have hl0 := (hO108.rs (fun _ => rfl)).len; simp only [List.length_append, List.length_cons, List.length_nil] at hl0 ⊢; omega) | (simp; omega; done) | simp | rfl
          clear hO108
          have hsz120 := hch116.size
          replace hRhs := hRhs.ch hch116 (hP99.off.le (by omega))
          replace hDhs := hDhs.ch hch116 (fun s hs => by first | exact .inr (.inl hs) | exact .inr (.inl (obl_any hs)) | exact .inr (.inr (Nat.le_trans (by omega) (hP99.off s hs))) | exact .inl (Nat.lt_of_lt_of_le (hub100 s hs) (by omega)))
          replace hO85 := hO85.ch hch116 (dj_as hdj101)
          replace hc := (hP99.off.le (by omega)).step hc hch116
          have hub121 := hO115.lt
          obtain ⟨A122, c123, hv124, hcap125, hcap126⟩ := hO115.form; subst hv124
          have hdj119 : ∀ s ∈ obl (.slice A122 ((el hs84 p).ps ++ ([(k : Int) + 1] : List Int)).length c123), s ∉ obl (.slice A82 hs84.length c83) := dj_new hs117 (dj_sw hdj101) (fun s hs => by have := hub90 s hs; omega)
          have hDO127 : DOw w70.heap.size w114.heap.size (obl (.slice A82 hs84.length c83)) 3 w114 (hs84.set p ⟨(el hs84 p).nm, A122, ((el hs84 p).ps ++ ([(k : Int) + 1] : List Int)).length, c123, ((el hs84 p).ps ++ ([(k : Int) + 1] : List Int))⟩) := hDO86.grow (p := p) (by omega) _ hch116 hO115 hs117 (by omega) (fun s h => Nat.lt_of_lt_of_le (hub90 s h) (by omega))
          have hZg : SzOK (hs84.set p ⟨(el hs84 p).nm, A122, ((el hs84 p).ps ++ ([(k : Int) + 1] : List Int)).length, c123, ((el hs84 p).ps ++ ([(k : Int) + 1] : List Int))⟩) := SzOK.set (by assumption) p (by have := ‹SzOK hs84› p (by omega); dsimp only; omega) (by have := ‹SzOK hs84› p (by omega); dsimp only; simp; omega)
          refine rw_cons (op_pv (w0 rfl) rfl rfl (pv_idx Try.underlying24 T48 rfl rfl rfl ((hO85.rs (fun _ => rfl)).some (k := p) (by omega)) (by omega) (by omega)) ?_)
          refine rw_cons (op_pv (w0 rfl) rfl rfl (pv_fld F48_1 rfl rfl) ?_)
          refine rw_cons (op_store_ownA (k := p) (off := 1) (⟨(el hs84 p).nm, A122, ((el hs84 p).ps ++ ([(k : Int) + 1] : List Int)).length, c123, ((el hs84 p).ps ++ ([(k : Int) + 1] : List Int))⟩) T25 hO85 (fun _ => rfl) (w0 rfl) rfl rfl rfl rfl rfl (one_all rfl) (by omega) (Nat.le_of_ble_eq_true rfl) rfl ?_)
          rintro w128 hO130 hch129
          have hsz131 := hch129.size
          replace hRhs := hRhs.ch hch129 (hO85.off.le (by omega))
          replace hDhs := hDhs.ch hch129 (fun s hs => by first | exact .inr (.inl hs) | exact .inr (.inl (obl_any hs)) | exact .inr (.inr (Nat.le_trans (by omega) (hO85.off s hs))) | exact .inl (Nat.lt_of_lt_of_le (hub90 s hs) (by omega)))
          replace hO115 := hO115.ch hch129 (dj_as hdj119)
          replace hDO127 := hDO127.ch hch129 (fun s hs => by first | exact .inr (.inl hs) | exact .inr (.inl (obl_any hs)) | exact .inr (.inr (Nat.le_trans (by omega) (hO85.off s hs))) | exact .inl (Nat.lt_of_lt_of_le (hub90 s hs) (by omega)))
          replace hc := (hO85.off.le (by omega)).step hc hch129
          clear hO85; have hO85 := hO130; clear hO130
          refine rw_nil (hK96 _ _ ?_)
          refine hK94 _ _ ?_
          refine cw_seq fun K132 hK133 => ?_
          refine cw_seq fun K134 hK135 => ?_
          have hnl : (hs84.set p (⟨(el hs84 p).nm, A122, ((el hs84 p).ps ++ ([(k : Int) + 1] : List Int)).length, c123, ((el hs84 p).ps ++ ([(k : Int) + 1] : List Int))⟩)).length = hs84.length := List.length_set ..
          refine cw_region fun K136 hK137 => ?_
          refine rw_cons (op_pv (w0 rfl) rfl rfl (pv_move (v := (.slice A82 hs84.length c83)) rfl rfl) ?_)
          refine rw_cons (op_call (w0 rfl) rfl rfl (rc_call C32 rfl rfl) (FilesValid_s _ hs84.length _ (hs84.set p (⟨(el hs84 p).nm, A122, ((el hs84 p).ps ++ ([(k : Int) + 1] : List Int)).length, c123, ((el hs84 p).ps ++ ([(k : Int) + 1] : List Int))⟩)) _ (hO85.rs (fun _ => rfl)) (hDO127.any (by omega)) (by first | assumption | exact SzOK.nil) (by omega) (by omega)) ?_)
          rintro _ w138 ⟨rfl, hch139⟩
          have hsz140 := hch139.size
          replace hRhs := hRhs.ch0 hch139
          replace hDhs := hDhs.ch0 hch139
          replace hO85 := hO85.ch0 hch139
          replace hO115 := hO115.ch0 hch139
          replace hDO127 := hDO127.ch0 hch139
          replace hc := hc.step0 hch139
          refine rw_cons (op_pv (w0 rfl) rfl rfl (pv_not rfl rfl) ?_)
          refine rw_nil (hK137 _ _ ?_)
          refine hK135 _ _ ?_
          refine cw_cond rfl (fun h141 => ?_) (fun h141 => ?_)
          · -- then
            replace h141 := not_t h141
            replace h141 := dec_f h141
            refine cw_seq fun K142 hK143 => ?_
            refine cw_region fun K144 hK145 => ?_
            refine rw_cons (op_bslice [] Try.underlying24 T48 (w0 rfl) rfl rfl rfl rfl rfl (by simp [Value.cells]) (by decide) ?_)
            intro g147 w146 hg150 hg151 hK149 hch148
            have hO152 : Own encF 2 w146 w138.heap.size 48 (.slice (some ⟨g147, 0, none⟩) 0 0) ([] : List Fl) := Blk.own (xs := ([] : List Fl)) hK149 (by omega) rfl (by decide) rfl
            have hsz153 := hch148.size
            replace hRhs := hRhs.ch0 hch148
            replace hDhs := hDhs.ch0 hch148
            replace hO85 := hO85.ch0 hch148
            replace hO115 := hO115.ch0 hch148
            replace hDO127 := hDO127.ch0 hch148
            replace hc := hc.step0 hch148
            have hub154 := hO152.lt
            have hdj155 : ∀ s ∈ obl (.slice A82 hs84.length c83), s ∉ obl (.slice (some ⟨g147, 0, none⟩) 0 0) := fun s hs hs2 => by first | (have h1 := hub90 s hs; have h2 := hO152.off s hs2; omega) | (simp [obl, Value.ownBlock] at hs; done) | (simp [obl, Value.ownBlock] at hs2; done) | (have h1 := hub90 s hs; simp [obl, Value.ownBlock] at hs2; omega)
            have hdj156 : ∀ s ∈ obl (.slice A122 ((el hs84 p).ps ++ ([(k : Int) + 1] : List Int)).length c123), s ∉ obl (.slice (some ⟨g147, 0, none⟩) 0 0) := fun s hs hs2 => by first | (have h1 := hub121 s hs; have h2 := hO152.off s hs2; omega) | (simp [obl, Value.ownBlock] at hs; done) | (simp [obl, Value.ownBlock] at hs2; done) | (have h1 := hub121 s hs; simp [obl, Value.ownBlock] at hs2; omega)
            refine rw_cons (op_pv (w0 rfl) rfl rfl (pv_assign (v := (.slice (some ⟨g147, 0, none⟩) 0 0)) rfl rfl) ?_)
            refine rw_cons (op_pv (w0 rfl) rfl rfl (pv_assign (v := (.int .i64 0)) rfl rfl) ?_)
            refine rw_cons (op_pv (w0 rfl) rfl rfl (pv_assign (v := (.bool false)) rfl rfl) ?_)
            refine rw_nil (hK145 _ _ ?_)
            refine hK143 _ _ ?_
            refine cw_ret ?_
            refine fin3 rfl rfl rfl ?_
            have hgv : fvs (hs84.set p ⟨(el hs84 p).nm, A122, ((el hs84 p).ps ++ ([(k : Int) + 1] : List Int)).length, c123, ((el hs84 p).ps ++ ([(k : Int) + 1] : List Int))⟩) = grownF (fvs hs) s := by rw [grownF_eq hp hleast, fvs_set, hfe87, el_fvs (by omega), ← fvs_el hfe87 (by omega)]; rfl
            have hno : ¬GrowOK (fvs hs) s := by rintro ⟨h1, h2, h3⟩; first | contradiction | omega | (rw [← hgv] at h3; contradiction)
            have he_0 : fvs ([] : List Fl) = growV (fvs hs) s := (growV_no hno).symm
            exact ⟨_, _, ([] : List Fl), tup3 (sl_as hO152 rfl) (iv (growN_no hno).symm) (bvf hno), own_as (xs := ([] : List Fl)) (hO152.less (by omega)) rfl, DOw.nil, he_0, (by first | assumption | exact SzOK.nil), hc⟩
          · -- else
            replace h141 := not_f h141
            replace h141 := dec_t h141
            refine cw_skip ?_
            refine hK133 _ _ ?_
            refine cw_seq fun K157 hK158 => ?_
            refine cw_region fun K159 hK160 => ?_
            refine rw_cons (op_pv (w0 rfl) rfl rfl (pv_move (v := (.slice A82 hs84.length c83)) rfl rfl) ?_)
            refine rw_cons (op_pv (w0 rfl) rfl rfl (pv_move (v := (.int .i64 ((k : Int) + 1))) rfl rfl) ?_)
            refine rw_cons (op_pv (w0 rfl) rfl rfl (pv_assign (v := (.slice A82 hs84.length c83)) rfl rfl) ?_)
            refine rw_cons (op_pv (w0 rfl) rfl rfl (pv_assign (v := (.int .i64 ((k : Int) + 1))) rfl rfl) ?_)
            refine rw_cons (op_pv (w0 rfl) rfl rfl (pv_assign (v := (.bool true)) rfl rfl) ?_)
            refine rw_nil (hK160 _ _ ?_)
            refine hK158 _ _ ?_
            refine cw_ret ?_
            refine fin3 rfl rfl rfl ?_
            have hgv : fvs (hs84.set p ⟨(el hs84 p).nm, A122, ((el hs84 p).ps ++ ([(k : Int) + 1] : List Int)).length, c123, ((el hs84 p).ps ++ ([(k : Int) + 1] : List Int))⟩) = grownF (fvs hs) s := by rw [grownF_eq hp hleast, fvs_set, hfe87, el_fvs (by omega), ← fvs_el hfe87 (by omega)]; rfl
            have hyes : GrowOK (fvs hs) s := ⟨by assumption, by omega, by rw [← hgv]; assumption⟩
            have he_0 : fvs (hs84.set p (⟨(el hs84 p).nm, A122, ((el hs84 p).ps ++ ([(k : Int) + 1] : List Int)).length, c123, ((el hs84 p).ps ++ ([(k : Int) + 1] : List Int))⟩)) = growV (fvs hs) s := by rw [growV_yes hyes, ← hgv]
            exact ⟨_, _, (hs84.set p (⟨(el hs84 p).nm, A122, ((el hs84 p).ps ++ ([(k : Int) + 1] : List Int)).length, c123, ((el hs84 p).ps ++ ([(k : Int) + 1] : List Int))⟩)), tup3 (sl_as hO85 rfl) (iv (by rw [growN_yes hyes, least_eq hleast])) (bvt hyes), own_as (xs := (hs84.set p (⟨(el hs84 p).nm, A122, ((el hs84 p).ps ++ ([(k : Int) + 1] : List Int)).length, c123, ((el hs84 p).ps ++ ([(k : Int) + 1] : List Int))⟩))) (hO85.less (by omega)) rfl, (hDO127.as (by omega) (by omega)), he_0, (by first | assumption | exact SzOK.nil), hc⟩
end Go.Proofs.Ythgnlljpjpklpaa

/-
  The walk of impl.FileGrow, written by program: each line names the law of one operation. Conditions: those of the theorem.
-/
import Derived.Test.YthgnlljpjpklpaaProg
import Derived.Test.YthgnlljpjpklpaaDeep
import Derived.Test.YthgnlljpjpklpaaFlaw
import Derived.Test.YthgnlljpjpklpaaFops
import Derived.Test.YthgnlljpjpklpaaFimplFilesValid
import Derived.Test.YthgnlljpjpklpaaFimplfilePlace
import Derived.Test.YthgnlljpjpklpaaFimplcopyFiles
import Derived.Test.YthgnlljpjpklpaaFimpltreeOf
import Derived.Test.YthgnlljpjpklpaaFimplpieceTreehas
import Derived.KernelRfl
namespace Go.Proofs.Ythgnlljpjpklpaa
open Go Go.RowKit
set_option linter.unusedVariables false
set_option linter.unusedSimpArgs false
namespace FileGrow_iF
theorem T3 : TI Try.prog 3 false (.int .i64 0) 1 8 := TI.mk' Try.underlying3 rfl (by kernel_rfl)
theorem T25 : TI Try.prog 25 false (.slice none 0 0) 1 24 := TI.mk' Try.underlying25 rfl (by kernel_rfl)
theorem T48 : TI Try.prog 48 true (.agg #[.string { data := #[] }, .slice none 0 0]) 2 40 := TI.mk' Try.underlying48 rfl (by kernel_rfl)
theorem F48_1 : FldOK Try.prog 48 1 1 := ⟨_, _, 0, Try.underlying48, rfl, rfl, by kernel_rfl⟩
theorem C31 : Callable Try.prog 31 := ⟨_, Try.func31, by kernel_rfl, by kernel_rfl⟩
theorem C49 : Callable Try.prog 49 := ⟨_, Try.func49, by kernel_rfl, by kernel_rfl⟩
theorem C50 : Callable Try.prog 50 := ⟨_, Try.func50, by kernel_rfl, by kernel_rfl⟩
theorem C56 : Callable Try.prog 56 := ⟨_, Try.func56, by kernel_rfl, by kernel_rfl⟩
theorem C60 : Callable Try.prog 60 := ⟨_, Try.func60, by kernel_rfl, by kernel_rfl⟩
end FileGrow_iF
open FileGrow_iF in
set_option maxHeartbeats 4000000 in
theorem FileGrow_i (Ahs : Option Addr) (nhs chs : Nat) (hs : List Fl) (s : ByteArray) (w : World) (hRhs : RS encF 2 w w.heap.size Ahs nhs hs) (hDhs : DX 0 w.heap.size [] w hs) (hZhs : SzOK hs) (hNhs : nhs ≤ 1099511627776) :
    Fn Try.prog 34 [(.slice Ahs nhs chs), (.string s)] w fun v w' => ∃ A_0 c_0 h_0, v = .tuple #[.slice A_0 h_0.length c_0, .int .i64 (growN (fvs hs) s), .bool (dec (GrowOK (fvs hs) s))] ∧ Own encF 2 w' w.heap.size 48 (.slice A_0 h_0.length c_0) h_0 ∧ DOw w.heap.size w'.heap.size (obl (.slice A_0 h_0.length c_0)) 3 w' h_0 ∧ fvs h_0 = growV (fvs hs) s ∧ SzOK h_0 ∧ Ch [] w w' := by
  have hlenhs := hRhs.len
  refine fn_of (n := 52) Try.func34 rfl rfl rfl rfl ?_
  have hc : Ch [] w w := Ch.refl _ _
  refine cw_seq fun K1 hK2 => ?_
  refine cw_region fun K3 hK4 => ?_
  refine rw_cons (op_pv (w0 rfl) rfl rfl (pv_assign (v := (.slice none 0 0)) rfl rfl) ?_)
  refine rw_cons (op_pv (w0 rfl) rfl rfl (pv_assign (v := (.int .i64 0)) rfl rfl) ?_)
  refine rw_cons (op_pv (w0 rfl) rfl rfl (pv_assign (v := (.bool false)) rfl rfl) ?_)
  refine rw_nil (hK4 _ _ ?_)
  refine hK2 _ _ ?_
  refine cw_seq fun K5 hK6 => ?_
  refine cw_seq fun K7 hK8 => ?_
  refine cw_region fun K9 hK10 => ?_
  refine rw_cons (op_pv (w0 rfl) rfl rfl (pv_move (v := (.slice Ahs nhs chs)) rfl rfl) ?_)
  refine rw_cons (op_call (w0 rfl) rfl rfl (rc_call C31 rfl rfl) (FilesValid_i _ nhs _ hs _ (hRhs.more (by omega)) (hDhs.any (by omega)) (by first | assumption | exact SzOK.nil) (by omega)) ?_)
  rintro _ w11 ⟨rfl, hch12⟩
  have hsz13 := hch12.size
  replace hRhs := hRhs.ch0 hch12
  replace hDhs := hDhs.ch0 hch12
  replace hc := hc.step0 hch12
  refine rw_cons (op_pv (w0 rfl) rfl rfl (pv_not rfl rfl) ?_)
  refine rw_nil (hK10 _ _ ?_)
  refine hK8 _ _ ?_
  refine cw_cond rfl (fun h14 => ?_) (fun h14 => ?_)
  · -- then
    replace h14 := not_t h14
    replace h14 := dec_f h14
    refine cw_seq fun K15 hK16 => ?_
    refine cw_region fun K17 hK18 => ?_
    refine rw_cons (op_bslice [] Try.underlying24 T48 (w0 rfl) rfl rfl rfl rfl rfl (by simp [Value.cells]) (by decide) ?_)
    intro g20 w19 hg23 hg24 hK22 hch21
    have hO25 : Own encF 2 w19 w11.heap.size 48 (.slice (some ⟨g20, 0, none⟩) 0 0) ([] : List Fl) := Blk.own (xs := ([] : List Fl)) hK22 (by omega) rfl (by decide) rfl
    have hsz26 := hch21.size
    replace hRhs := hRhs.ch0 hch21
    replace hDhs := hDhs.ch0 hch21
    replace hc := hc.step0 hch21
    have hub27 := hO25.lt
    refine rw_cons (op_pv (w0 rfl) rfl rfl (pv_assign (v := (.slice (some ⟨g20, 0, none⟩) 0 0)) rfl rfl) ?_)
    refine rw_cons (op_pv (w0 rfl) rfl rfl (pv_assign (v := (.int .i64 0)) rfl rfl) ?_)
    refine rw_cons (op_pv (w0 rfl) rfl rfl (pv_assign (v := (.bool false)) rfl rfl) ?_)
    refine rw_nil (hK18 _ _ ?_)
    refine hK16 _ _ ?_
    refine cw_ret ?_
    refine fin3 rfl rfl rfl ?_
    have hno : ¬GrowOK (fvs hs) s := by rintro ⟨h1, h2, h3⟩; first | contradiction | omega | (rw [← hgv] at h3; contradiction)
    have he_0 : fvs ([] : List Fl) = growV (fvs hs) s := (growV_no hno).symm
    exact ⟨_, _, ([] : List Fl), tup3 (sl_as hO25 rfl) (iv (growN_no hno).symm) (bvf hno), own_as (xs := ([] : List Fl)) (hO25.less (by omega)) rfl, DOw.nil, he_0, (by first | assumption | exact SzOK.nil), hc⟩
  · -- else
    replace h14 := not_f h14
    replace h14 := dec_t h14
    refine cw_skip ?_
    refine hK6 _ _ ?_
    refine cw_seq fun K28 hK29 => ?_
    refine cw_region fun K30 hK31 => ?_
    refine rw_cons (op_pv (w0 rfl) rfl rfl (pv_move (v := (.slice Ahs nhs chs)) rfl rfl) ?_)
    refine rw_cons (op_pv (w0 rfl) rfl rfl (pv_move (v := (.string s)) rfl rfl) ?_)
    refine rw_cons (op_call (w0 rfl) rfl rfl (rc_call C49 rfl rfl) (filePlace_i _ nhs _ hs s _ (hRhs.more (by omega)) (hDhs.any (by omega)) (by first | assumption | exact SzOK.nil) (by omega)) ?_)
    rintro _ w32 ⟨rfl, hch33⟩
    have hsz34 := hch33.size
    replace hRhs := hRhs.ch0 hch33
    replace hDhs := hDhs.ch0 hch33
    replace hc := hc.step0 hch33
    have hnt35 := place_bds hs s
    refine rw_cons (op_pv (w0 rfl) rfl rfl (pv_assign (v := (.int .i64 (fplace (fvs hs) s))) rfl rfl) ?_)
    refine rw_nil (hK31 _ _ ?_)
    refine hK29 _ _ ?_
    refine cw_seq fun K36 hK37 => ?_
    refine cw_seq fun K38 hK39 => ?_
    refine cw_region fun K40 hK41 => ?_
    refine rw_cons (op_pv (w0 rfl) rfl rfl (pv_move (v := (.int .i64 (fplace (fvs hs) s))) rfl rfl) ?_)
    refine rw_cons (op_pv (w0 rfl) rfl rfl (pv_lss rfl rfl rfl) ?_)
    refine rw_nil (hK41 _ _ ?_)
    refine hK39 _ _ ?_
    refine cw_cond rfl (fun h42 => ?_) (fun h42 => ?_)
    · -- then
      replace h42 := of_decide_eq_true h42
      refine cw_seq fun K43 hK44 => ?_
      refine cw_region fun K45 hK46 => ?_
      refine rw_cons (op_bslice [] Try.underlying24 T48 (w0 rfl) rfl rfl rfl rfl rfl (by simp [Value.cells]) (by decide) ?_)
      intro g48 w47 hg51 hg52 hK50 hch49
      have hO53 : Own encF 2 w47 w32.heap.size 48 (.slice (some ⟨g48, 0, none⟩) 0 0) ([] : List Fl) := Blk.own (xs := ([] : List Fl)) hK50 (by omega) rfl (by decide) rfl
      have hsz54 := hch49.size
      replace hRhs := hRhs.ch0 hch49
      replace hDhs := hDhs.ch0 hch49
      replace hc := hc.step0 hch49
      have hub55 := hO53.lt
      refine rw_cons (op_pv (w0 rfl) rfl rfl (pv_assign (v := (.slice (some ⟨g48, 0, none⟩) 0 0)) rfl rfl) ?_)
      refine rw_cons (op_pv (w0 rfl) rfl rfl (pv_assign (v := (.int .i64 0)) rfl rfl) ?_)
      refine rw_cons (op_pv (w0 rfl) rfl rfl (pv_assign (v := (.bool false)) rfl rfl) ?_)
      refine rw_nil (hK46 _ _ ?_)
      refine hK44 _ _ ?_
      refine cw_ret ?_
      refine fin3 rfl rfl rfl ?_
      have hno : ¬GrowOK (fvs hs) s := by rintro ⟨h1, h2, h3⟩; first | contradiction | omega | (rw [← hgv] at h3; contradiction)
      have he_0 : fvs ([] : List Fl) = growV (fvs hs) s := (growV_no hno).symm
      exact ⟨_, _, ([] : List Fl), tup3 (sl_as hO53 rfl) (iv (growN_no hno).symm) (bvf hno), own_as (xs := ([] : List Fl)) (hO53.less (by omega)) rfl, DOw.nil, he_0, (by first | assumption | exact SzOK.nil), hc⟩
    · -- else
      replace h42 := of_decide_eq_false h42
      refine cw_skip ?_
      refine hK37 _ _ ?_
      refine cw_seq fun K56 hK57 => ?_
      obtain ⟨p, hp⟩ : ∃ p : Nat, fplace (fvs hs) s = (p : Int) := ⟨(fplace (fvs hs) s).toNat, by omega⟩
      rw [hp]
      have hpn : p < nhs := by have := place_bds hs s; omega
      refine cw_region fun K58 hK59 => ?_
      refine rw_cons (op_pv (w0 rfl) rfl rfl (pv_move (v := (.slice Ahs nhs chs)) rfl rfl) ?_)
      refine rw_cons (op_call (w0 rfl) rfl rfl (rc_call C56 rfl rfl) (treeOf_ok _ nhs _ hs _ (hRhs.more (by omega)) (hDhs.any (by omega)) (by omega) (by assumption)) ?_)
      rintro _ w60 ⟨p61, t62, b63, rfl, hT64, hnum65, hb66, hch67⟩
      have hsz68 := hch67.size
      replace hRhs := hRhs.ch0 hch67
      replace hDhs := hDhs.ch0 hch67
      replace hc := hc.step0 hch67
      have hubT69 := hT64.is.lt
      refine rw_cons (op_pv (w0 rfl) rfl rfl (pv_move (v := (.tuple #[(.pointer p61), (.bool b63)])) rfl rfl) ?_)
      refine rw_cons (op_pv (w0 rfl) rfl rfl (pv_ext (v := (.pointer p61)) rfl rfl rfl) ?_)
      refine rw_cons (op_pv (w0 rfl) rfl rfl (pv_ext (v := (.bool b63)) rfl rfl rfl) ?_)
      refine rw_cons (op_pv (w0 rfl) rfl rfl (pv_assign (v := (.pointer p61)) rfl rfl) ?_)
      refine rw_cons (op_pv (w0 rfl) rfl rfl (pv_assign (v := (.bool b63)) rfl rfl) ?_)
      refine rw_nil (hK59 _ _ ?_)
      refine hK57 _ _ ?_
      refine cw_seq fun K70 hK71 => ?_
      refine cw_region fun K72 hK73 => ?_
      refine rw_cons (op_pv (w0 rfl) rfl rfl (pv_assign (v := (.int .i64 1)) rfl rfl) ?_)
      refine rw_nil (hK73 _ _ ?_)
      refine hK71 _ _ ?_
      refine cw_seq fun K74 hK75 => ?_
      refine cw_block ?_
      refine cw_loop (σ := Nat) (fun k => [(10, (.int .i64 ((k : Int) + 1))), (0, (.slice Ahs nhs chs)), (4, (.slice none 0 0)), (5, (.int .i64 0)), (6, (.bool false)), (7, (.int .i64 (p : Int))), (8, (.pointer p61))]) (fun k W => (k ≤ 99 ∧ ∀ j : Int, 1 ≤ j → j < (k : Int) + 1 → j ∈ pcs (fvs hs)) ∧ RS encF 2 W w.heap.size Ahs nhs hs ∧ DX 0 w.heap.size ([]) W hs ∧ PT.OK 80 w32.heap.size W t62 p61 ∧ Ch [] w W) (fun k => 100 - k) 0 ?_ ?_ ?_
      · exact ⟨(iv (by omega)), rfl, rfl, rfl, rfl, rfl, rfl, trivial⟩
      · refine ⟨⟨by omega, fun j h1 h2 => by omega⟩, hRhs, hDhs, hT64, hc⟩
      · rintro k J80 w76 ⟨⟨hk, hye⟩, hRhs, hDhs, hT64, hc⟩ K77 hK78
        have hsz82 := hc.size
        have hubT83 := hT64.is.lt
        refine cw_seq fun K84 hK85 => ?_
        refine cw_seq fun K86 hK87 => ?_
        refine cw_region fun K88 hK89 => ?_
        refine rw_cons (op_pv (w0 rfl) rfl rfl (pv_move (v := (.pointer p61)) rfl rfl) ?_)
        refine rw_cons (op_pv (w0 rfl) rfl rfl (pv_move (v := (.int .i64 ((k : Int) + 1))) rfl rfl) ?_)
        refine rw_cons (op_call (w0 rfl) rfl rfl (rc_call C60 rfl rfl) (has_ok _ _ ((k : Int) + 1) _ _ hT64) ?_)
        rintro _ w90 ⟨rfl, hch91⟩
        have hsz92 := hch91.size
        replace hRhs := hRhs.ch0 hch91
        replace hDhs := hDhs.ch0 hch91
        replace hT64 := hT64.ch0 hch91
        replace hc := hc.step0 hch91
        refine rw_nil (hK89 _ _ ?_)
        refine hK87 _ _ ?_
        refine cw_cond rfl (fun h93 => ?_) (fun h93 => ?_)
        · -- then
          replace h93 := dec_t h93
          refine cw_skip ?_
          refine hK85 _ _ ?_
          refine cw_block ?_
          have hin : (k : Int) + 1 ∈ pcs (fvs hs) := (hnum65 _).1 (by assumption)
          have h99b := pcs_bd ‹FOK (fvs hs)› hin
          refine cw_region fun K94 hK95 => ?_
          refine rw_cons (op_pv (w0 rfl) rfl rfl (pv_move (v := (.int .i64 ((k : Int) + 1))) rfl rfl) ?_)
          refine rw_cons (op_pv (w0 rfl) rfl rfl (pv_add rfl rfl rfl (by omega) (by omega)) ?_)
          refine rw_cons (op_pv (w0 rfl) rfl rfl (pv_assign (v := (.int .i64 (((k : Int) + 1) + 1))) rfl rfl) ?_)
          refine rw_nil (hK95 _ _ ?_)
          refine hK78 _ _ (k + 1) ⟨(iv (by omega)), rfl, rfl, rfl, rfl, rfl, rfl, trivial⟩ ⟨?_, hRhs, hDhs, hT64, hc⟩ ?_
          · have h99 := pcs_bd ‹FOK (fvs hs)› hin
            exact ⟨by omega, fun j h1 h2 => by by_cases e : j = (k : Int) + 1; (rw [e]; exact hin); exact hye j h1 (by omega)⟩
          · (first | omega | (simp only []; omega))
        · -- else
          replace h93 := dec_f h93
          refine cw_exit ?_
          refine hK75 _ _ ?_
          refine cw_seq fun K96 hK97 => ?_
          have hleast : IsLeast (pcs (fvs hs)) ((k : Int) + 1) := ⟨by omega, fun h9 => absurd ((hnum65 _).2 h9) (by assumption), hye⟩
          refine cw_region fun K98 hK99 => ?_
          refine rw_cons (op_pv (w0 rfl) rfl rfl (pv_move (v := (.slice Ahs nhs chs)) rfl rfl) ?_)
          refine rw_cons (op_call (w0 rfl) rfl rfl (rc_call C50 rfl rfl) (copyFiles_ok _ nhs _ hs _ (hRhs.more (by omega)) (hDhs.any (by omega)) (by first | assumption | exact SzOK.nil) (by omega)) ?_)
          rintro _ w100 ⟨A102, c103, hs104, rfl, hO105, hDO106, hfe107, hZ108, hch101⟩
          have hsz109 := hch101.size
          replace hRhs := hRhs.ch0 hch101
          replace hDhs := hDhs.ch0 hch101
          replace hc := hc.step0 hch101
          have hub110 := hO105.lt
          have hcap111 : hs104.length ≤ c103 := by obtain ⟨_, _, hv, h1, _⟩ := hO105.form; injection hv with _ _ h3; omega
          have hfl112 : hs104.length = (fvs hs).length := by rw [← hfe107, fvs_len]
          try simp only [fvs_len, List.length_take, List.length_drop] at hfl112
          refine rw_cons (op_pv (w0 rfl) rfl rfl (pv_assign (v := (.slice A102 hs104.length c103)) rfl rfl) ?_)
          refine rw_nil (hK99 _ _ ?_)
          refine hK97 _ _ ?_
          refine cw_seq fun K113 hK114 => ?_
          refine cw_region fun K115 hK116 => ?_
          refine rw_cons (op_pv (w0 rfl) rfl rfl (pv_move (v := (.slice A102 hs104.length c103)) rfl rfl) ?_)
          refine rw_cons (op_pv (w0 rfl) rfl rfl (pv_move (v := (.int .i64 (p : Int))) rfl rfl) ?_)
          refine rw_cons (op_pv (w0 rfl) rfl rfl (pv_move (v := (.slice A102 hs104.length c103)) rfl rfl) ?_)
          refine rw_cons (op_pv (w0 rfl) rfl rfl (pv_move (v := (.int .i64 (p : Int))) rfl rfl) ?_)
          refine rw_cons (op_pv (w0 rfl) rfl rfl (pv_idx Try.underlying24 T48 rfl rfl rfl ((hO105.rs (fun _ => rfl)).some (k := p) (by omega)) (by omega) (by omega)) ?_)
          refine rw_cons (op_pv (w0 rfl) rfl rfl (pv_fld F48_1 rfl rfl) ?_)
          have hR117 : RS encI 1 w100 w100.heap.size (el hs104 p).A (el hs104 p).n (el hs104 p).ps := hDO106.rs (k := p) (by omega)
          have hln118 := hR117.len
          refine rw_cons (op_lv (w0 rfl) rfl rfl (lv_load T25 rfl rfl ((hO105.rs (fun _ => rfl)).cellE (k := p) (j := 1) (by omega) rfl)) ?_)
          clear hR117
          have hP119 := hDO106.own p (by omega)
          have hub120 := hP119.lt
          have hPl := (hP119.rs (fun _ => rfl)).len
          have hP4 := fok_n ‹FOK (fvs hs)› hfe107 (p := p) (by omega)
          have hPz := ‹SzOK hs104› p (by omega)
          have hdj121 : ∀ s ∈ obl (.slice A102 hs104.length c103), s ∉ obl (.slice (el hs104 p).A (el hs104 p).n (el hs104 p).c) := fun s h1 h2 => (hDO106.off p (by omega) s h2).1 h1
          refine rw_cons (op_pv (w0 rfl) rfl rfl (pv_move (v := (.int .i64 ((k : Int) + 1))) rfl rfl) ?_)
          refine rw_cons (op_bslice [(.int .i64 ((k : Int) + 1))] Try.underlying25 T3 (w0 rfl) rfl rfl rfl rfl rfl (by simp [Value.cells]) (by decide) ?_)
          intro g123 w122 hg126 hg127 hK125 hch124
          have hO128 : Own encI 1 w122 w100.heap.size 3 (.slice (some ⟨g123, 0, none⟩) 1 1) ([(k : Int) + 1] : List Int) := Blk.own (xs := ([(k : Int) + 1] : List Int)) hK125 (by omega) rfl (by decide) rfl
          have hsz129 := hch124.size
          replace hRhs := hRhs.ch0 hch124
          replace hDhs := hDhs.ch0 hch124
          replace hO105 := hO105.ch0 hch124
          replace hDO106 := hDO106.ch0 hch124
          replace hP119 := hP119.ch0 hch124
          replace hc := hc.step0 hch124
          have hub130 := hO128.lt
          have hdj131 : ∀ s ∈ obl (.slice A102 hs104.length c103), s ∉ obl (.slice (some ⟨g123, 0, none⟩) 1 1) := fun s hs hs2 => by first | (have h1 := hub110 s hs; have h2 := hO128.off s hs2; omega) | (simp [obl, Value.ownBlock] at hs; done) | (simp [obl, Value.ownBlock] at hs2; done) | (have h1 := hub110 s hs; simp [obl, Value.ownBlock] at hs2; omega)
          have hdj132 : ∀ s ∈ obl (.slice (el hs104 p).A (el hs104 p).n (el hs104 p).c), s ∉ obl (.slice (some ⟨g123, 0, none⟩) 1 1) := fun s hs hs2 => by first | (have h1 := hub120 s hs; have h2 := hO128.off s hs2; omega) | (simp [obl, Value.ownBlock] at hs; done) | (simp [obl, Value.ownBlock] at hs2; done) | (have h1 := hub120 s hs; simp [obl, Value.ownBlock] at hs2; omega)
          refine rw_cons (op_append Try.underlying25 T3 (fun _ => rfl) rfl (by decide) (fun _ => one_all rfl) (w0 rfl) rfl rfl rfl rfl rfl hP119 (hO128.rs (fun _ => rfl)) (by unfold maxLen; first | omega | (simp; omega)) (by first | omega | (simp; omega)) (by omega) ?_)
          rintro v133 w134 hO135 hch136 hs137
          have hl138 : ((el hs104 p).ps ++ ([(k : Int) + 1] : List Int)).length = (el hs104 p).n + 1 := by first | (have hl0 := (hO128.rs (fun _ => rfl)).len; omega) | (have hl0 := (hO128.rs (fun _ => rfl)).len; simp only [List.length_append, List.length_cons, List.length_nil] at hl0 ⊢; omega) | (simp; omega; done) | simp | rfl
          clear hO128
          have hsz140 := hch136.size
          replace hRhs := hRhs.ch hch136 (hP119.off.le (by omega))
          replace hDhs := hDhs.ch hch136 (fun s hs => by first | exact .inr (.inl hs) | exact .inr (.inl (obl_any hs)) | exact .inr (.inr (Nat.le_trans (by omega) (hP119.off s hs))) | exact .inl (Nat.lt_of_lt_of_le (hub120 s hs) (by omega)))
          replace hO105 := hO105.ch hch136 (dj_as hdj121)
          replace hc := (hP119.off.le (by omega)).step hc hch136
          have hub141 := hO135.lt
          obtain ⟨A142, c143, hv144, hcap145, hcap146⟩ := hO135.form; subst hv144
          have hdj139 : ∀ s ∈ obl (.slice A142 ((el hs104 p).ps ++ ([(k : Int) + 1] : List Int)).length c143), s ∉ obl (.slice A102 hs104.length c103) := dj_new hs137 (dj_sw hdj121) (fun s hs => by have := hub110 s hs; omega)
          have hDO147 : DOw w90.heap.size w134.heap.size (obl (.slice A102 hs104.length c103)) 3 w134 (hs104.set p ⟨(el hs104 p).nm, A142, ((el hs104 p).ps ++ ([(k : Int) + 1] : List Int)).length, c143, ((el hs104 p).ps ++ ([(k : Int) + 1] : List Int))⟩) := hDO106.grow (p := p) (by omega) _ hch136 hO135 hs137 (by omega) (fun s h => Nat.lt_of_lt_of_le (hub110 s h) (by omega))
          have hZg : SzOK (hs104.set p ⟨(el hs104 p).nm, A142, ((el hs104 p).ps ++ ([(k : Int) + 1] : List Int)).length, c143, ((el hs104 p).ps ++ ([(k : Int) + 1] : List Int))⟩) := SzOK.set (by assumption) p (by have := ‹SzOK hs104› p (by omega); dsimp only; omega) (by have := ‹SzOK hs104› p (by omega); dsimp only; simp; omega)
          refine rw_cons (op_pv (w0 rfl) rfl rfl (pv_idx Try.underlying24 T48 rfl rfl rfl ((hO105.rs (fun _ => rfl)).some (k := p) (by omega)) (by omega) (by omega)) ?_)
          refine rw_cons (op_pv (w0 rfl) rfl rfl (pv_fld F48_1 rfl rfl) ?_)
          refine rw_cons (op_store_ownA (k := p) (off := 1) (⟨(el hs104 p).nm, A142, ((el hs104 p).ps ++ ([(k : Int) + 1] : List Int)).length, c143, ((el hs104 p).ps ++ ([(k : Int) + 1] : List Int))⟩) T25 hO105 (fun _ => rfl) (w0 rfl) rfl rfl rfl rfl rfl (one_all rfl) (by omega) (Nat.le_of_ble_eq_true rfl) rfl ?_)
          rintro w148 hO150 hch149
          have hsz151 := hch149.size
          replace hRhs := hRhs.ch hch149 (hO105.off.le (by omega))
          replace hDhs := hDhs.ch hch149 (fun s hs => by first | exact .inr (.inl hs) | exact .inr (.inl (obl_any hs)) | exact .inr (.inr (Nat.le_trans (by omega) (hO105.off s hs))) | exact .inl (Nat.lt_of_lt_of_le (hub110 s hs) (by omega)))
          replace hO135 := hO135.ch hch149 (dj_as hdj139)
          replace hDO147 := hDO147.ch hch149 (fun s hs => by first | exact .inr (.inl hs) | exact .inr (.inl (obl_any hs)) | exact .inr (.inr (Nat.le_trans (by omega) (hO105.off s hs))) | exact .inl (Nat.lt_of_lt_of_le (hub110 s hs) (by omega)))
          replace hc := (hO105.off.le (by omega)).step hc hch149
          clear hO105; have hO105 := hO150; clear hO150
          refine rw_nil (hK116 _ _ ?_)
          refine hK114 _ _ ?_
          refine cw_seq fun K152 hK153 => ?_
          refine cw_seq fun K154 hK155 => ?_
          have hnl : (hs104.set p (⟨(el hs104 p).nm, A142, ((el hs104 p).ps ++ ([(k : Int) + 1] : List Int)).length, c143, ((el hs104 p).ps ++ ([(k : Int) + 1] : List Int))⟩)).length = hs104.length := List.length_set ..
          refine cw_region fun K156 hK157 => ?_
          refine rw_cons (op_pv (w0 rfl) rfl rfl (pv_move (v := (.slice A102 hs104.length c103)) rfl rfl) ?_)
          refine rw_cons (op_call (w0 rfl) rfl rfl (rc_call C31 rfl rfl) (FilesValid_i _ hs104.length _ (hs104.set p (⟨(el hs104 p).nm, A142, ((el hs104 p).ps ++ ([(k : Int) + 1] : List Int)).length, c143, ((el hs104 p).ps ++ ([(k : Int) + 1] : List Int))⟩)) _ (hO105.rs (fun _ => rfl)) (hDO147.any (by omega)) (by first | assumption | exact SzOK.nil) (by omega)) ?_)
          rintro _ w158 ⟨rfl, hch159⟩
          have hsz160 := hch159.size
          replace hRhs := hRhs.ch0 hch159
          replace hDhs := hDhs.ch0 hch159
          replace hO105 := hO105.ch0 hch159
          replace hO135 := hO135.ch0 hch159
          replace hDO147 := hDO147.ch0 hch159
          replace hc := hc.step0 hch159
          refine rw_cons (op_pv (w0 rfl) rfl rfl (pv_not rfl rfl) ?_)
          refine rw_nil (hK157 _ _ ?_)
          refine hK155 _ _ ?_
          refine cw_cond rfl (fun h161 => ?_) (fun h161 => ?_)
          · -- then
            replace h161 := not_t h161
            replace h161 := dec_f h161
            refine cw_seq fun K162 hK163 => ?_
            refine cw_region fun K164 hK165 => ?_
            refine rw_cons (op_bslice [] Try.underlying24 T48 (w0 rfl) rfl rfl rfl rfl rfl (by simp [Value.cells]) (by decide) ?_)
            intro g167 w166 hg170 hg171 hK169 hch168
            have hO172 : Own encF 2 w166 w158.heap.size 48 (.slice (some ⟨g167, 0, none⟩) 0 0) ([] : List Fl) := Blk.own (xs := ([] : List Fl)) hK169 (by omega) rfl (by decide) rfl
            have hsz173 := hch168.size
            replace hRhs := hRhs.ch0 hch168
            replace hDhs := hDhs.ch0 hch168
            replace hO105 := hO105.ch0 hch168
            replace hO135 := hO135.ch0 hch168
            replace hDO147 := hDO147.ch0 hch168
            replace hc := hc.step0 hch168
            have hub174 := hO172.lt
            have hdj175 : ∀ s ∈ obl (.slice A102 hs104.length c103), s ∉ obl (.slice (some ⟨g167, 0, none⟩) 0 0) := fun s hs hs2 => by first | (have h1 := hub110 s hs; have h2 := hO172.off s hs2; omega) | (simp [obl, Value.ownBlock] at hs; done) | (simp [obl, Value.ownBlock] at hs2; done) | (have h1 := hub110 s hs; simp [obl, Value.ownBlock] at hs2; omega)
            have hdj176 : ∀ s ∈ obl (.slice A142 ((el hs104 p).ps ++ ([(k : Int) + 1] : List Int)).length c143), s ∉ obl (.slice (some ⟨g167, 0, none⟩) 0 0) := fun s hs hs2 => by first | (have h1 := hub141 s hs; have h2 := hO172.off s hs2; omega) | (simp [obl, Value.ownBlock] at hs; done) | (simp [obl, Value.ownBlock] at hs2; done) | (have h1 := hub141 s hs; simp [obl, Value.ownBlock] at hs2; omega)
            refine rw_cons (op_pv (w0 rfl) rfl rfl (pv_assign (v := (.slice (some ⟨g167, 0, none⟩) 0 0)) rfl rfl) ?_)
            refine rw_cons (op_pv (w0 rfl) rfl rfl (pv_assign (v := (.int .i64 0)) rfl rfl) ?_)
            refine rw_cons (op_pv (w0 rfl) rfl rfl (pv_assign (v := (.bool false)) rfl rfl) ?_)
            refine rw_nil (hK165 _ _ ?_)
            refine hK163 _ _ ?_
            refine cw_ret ?_
            refine fin3 rfl rfl rfl ?_
            have hgv : fvs (hs104.set p ⟨(el hs104 p).nm, A142, ((el hs104 p).ps ++ ([(k : Int) + 1] : List Int)).length, c143, ((el hs104 p).ps ++ ([(k : Int) + 1] : List Int))⟩) = grownF (fvs hs) s := by rw [grownF_eq hp hleast, fvs_set, hfe107, el_fvs (by omega), ← fvs_el hfe107 (by omega)]; rfl
            have hno : ¬GrowOK (fvs hs) s := by rintro ⟨h1, h2, h3⟩; first | contradiction | omega | (rw [← hgv] at h3; contradiction)
            have he_0 : fvs ([] : List Fl) = growV (fvs hs) s := (growV_no hno).symm
            exact ⟨_, _, ([] : List Fl), tup3 (sl_as hO172 rfl) (iv (growN_no hno).symm) (bvf hno), own_as (xs := ([] : List Fl)) (hO172.less (by omega)) rfl, DOw.nil, he_0, (by first | assumption | exact SzOK.nil), hc⟩
          · -- else
            replace h161 := not_f h161
            replace h161 := dec_t h161
            refine cw_skip ?_
            refine hK153 _ _ ?_
            refine cw_seq fun K177 hK178 => ?_
            refine cw_region fun K179 hK180 => ?_
            refine rw_cons (op_pv (w0 rfl) rfl rfl (pv_move (v := (.slice A102 hs104.length c103)) rfl rfl) ?_)
            refine rw_cons (op_pv (w0 rfl) rfl rfl (pv_move (v := (.int .i64 ((k : Int) + 1))) rfl rfl) ?_)
            refine rw_cons (op_pv (w0 rfl) rfl rfl (pv_assign (v := (.slice A102 hs104.length c103)) rfl rfl) ?_)
            refine rw_cons (op_pv (w0 rfl) rfl rfl (pv_assign (v := (.int .i64 ((k : Int) + 1))) rfl rfl) ?_)
            refine rw_cons (op_pv (w0 rfl) rfl rfl (pv_assign (v := (.bool true)) rfl rfl) ?_)
            refine rw_nil (hK180 _ _ ?_)
            refine hK178 _ _ ?_
            refine cw_ret ?_
            refine fin3 rfl rfl rfl ?_
            have hgv : fvs (hs104.set p ⟨(el hs104 p).nm, A142, ((el hs104 p).ps ++ ([(k : Int) + 1] : List Int)).length, c143, ((el hs104 p).ps ++ ([(k : Int) + 1] : List Int))⟩) = grownF (fvs hs) s := by rw [grownF_eq hp hleast, fvs_set, hfe107, el_fvs (by omega), ← fvs_el hfe107 (by omega)]; rfl
            have hyes : GrowOK (fvs hs) s := ⟨by assumption, by omega, by rw [← hgv]; assumption⟩
            have he_0 : fvs (hs104.set p (⟨(el hs104 p).nm, A142, ((el hs104 p).ps ++ ([(k : Int) + 1] : List Int)).length, c143, ((el hs104 p).ps ++ ([(k : Int) + 1] : List Int))⟩)) = growV (fvs hs) s := by rw [growV_yes hyes, ← hgv]
            exact ⟨_, _, (hs104.set p (⟨(el hs104 p).nm, A142, ((el hs104 p).ps ++ ([(k : Int) + 1] : List Int)).length, c143, ((el hs104 p).ps ++ ([(k : Int) + 1] : List Int))⟩)), tup3 (sl_as hO105 rfl) (iv (by rw [growN_yes hyes, least_eq hleast])) (bvt hyes), own_as (xs := (hs104.set p (⟨(el hs104 p).nm, A142, ((el hs104 p).ps ++ ([(k : Int) + 1] : List Int)).length, c143, ((el hs104 p).ps ++ ([(k : Int) + 1] : List Int))⟩))) (hO105.less (by omega)) rfl, (hDO147.as (by omega) (by omega)), he_0, (by first | assumption | exact SzOK.nil), hc⟩
end Go.Proofs.Ythgnlljpjpklpaa

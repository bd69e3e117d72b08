/-
  The walk of laws.FnExactFileMake, written by program: each line names the law of one operation. Conditions: those of the theorem.
-/
import Derived.Test.YthgnlljpjpklpaaProg
import Derived.Test.YthgnlljpjpklpaaDeep
import Derived.Test.YthgnlljpjpklpaaFlawsszFileS
import Derived.Test.YthgnlljpjpklpaaFlawstoFileS
import Derived.Test.YthgnlljpjpklpaaFlawseqFileS
import Derived.Test.YthgnlljpjpklpaaMark
import Derived.Test.YthgnlljpjpklpaaFlawsmarkFileS
import Derived.Test.YthgnlljpjpklpaaFlawsheldFileS
import Derived.Test.YthgnlljpjpklpaaFimplFileMake
import Derived.Test.YthgnlljpjpklpaaFspecFileMake
import Derived.KernelRfl
namespace Go.Proofs.Ythgnlljpjpklpaa
open Go Go.RowKit
set_option linter.unusedVariables false
set_option linter.unusedSimpArgs false
namespace FnExactFileMake_okF
theorem C18 : Callable Try.prog 18 := ⟨_, Try.func18, by kernel_rfl, by kernel_rfl⟩
theorem C20 : Callable Try.prog 20 := ⟨_, Try.func20, by kernel_rfl, by kernel_rfl⟩
theorem C22 : Callable Try.prog 22 := ⟨_, Try.func22, by kernel_rfl, by kernel_rfl⟩
theorem C24 : Callable Try.prog 24 := ⟨_, Try.func24, by kernel_rfl, by kernel_rfl⟩
theorem C26 : Callable Try.prog 26 := ⟨_, Try.func26, by kernel_rfl, by kernel_rfl⟩
theorem C28 : Callable Try.prog 28 := ⟨_, Try.func28, by kernel_rfl, by kernel_rfl⟩
theorem C29 : Callable Try.prog 29 := ⟨_, Try.func29, by kernel_rfl, by kernel_rfl⟩
end FnExactFileMake_okF
open FnExactFileMake_okF in
set_option maxHeartbeats 4000000 in
theorem FnExactFileMake_ok (A0 : Option Addr) (n0 c0 : Nat) (xs0 : List Fl) (s1 : ByteArray) (w : World) (hR0 : RS encF 2 w w.heap.size A0 n0 xs0) (hn0 : n0 ≤ c0) (hm0 : c0 ≤ maxLen) (hD0 : DX 0 w.heap.size [] w xs0) (hz0 : ∀ k, k < xs0.length → (el xs0 k).nm.size ≤ maxLen ∧ (el xs0 k).n ≤ maxLen) (hs1 : s1.size ≤ maxLen) :
    Fn Try.prog 4 [(.slice A0 n0 c0), (.string s1)] w fun v w' => v = .bool true ∧ Ch [] w w' := by
  have hlen0 := hR0.len
  unfold maxLen at *
  refine fn_of (n := 104) Try.func4 rfl rfl rfl rfl ?_
  have hc : Ch [] w w := Ch.refl _ _
  refine cw_seq fun K1 hK2 => ?_
  refine cw_region fun K3 hK4 => ?_
  refine rw_cons (op_pv (w0 rfl) rfl rfl (pv_assign (v := (.bool false)) rfl rfl) ?_)
  refine rw_nil (hK4 _ _ ?_)
  refine hK2 _ _ ?_
  refine cw_seq fun K5 hK6 => ?_
  refine cw_seq fun K7 hK8 => ?_
  refine cw_region fun K9 hK10 => ?_
  refine rw_cons (op_pv (w0 rfl) rfl rfl (pv_move (v := (.string s1)) rfl rfl) ?_)
  refine rw_cons (op_pv (w0 rfl) rfl rfl (pv_lenS Try.underlying9 rfl rfl) ?_)
  refine rw_cons (op_pv (w0 rfl) rfl rfl (pv_gtr rfl rfl rfl) ?_)
  refine rw_nil (hK10 _ _ ?_)
  refine hK8 _ _ ?_
  refine cw_cond rfl (fun h11 => ?_) (fun h11 => ?_)
  · -- then
    replace h11 := of_decide_eq_true h11
    refine cw_seq fun K12 hK13 => ?_
    refine cw_region fun K14 hK15 => ?_
    refine rw_cons (op_pv (w0 rfl) rfl rfl (pv_assign (v := (.bool true)) rfl rfl) ?_)
    refine rw_nil (hK15 _ _ ?_)
    refine hK13 _ _ ?_
    refine cw_ret ?_
    refine fin1 rfl ?_
    first
      | exact ⟨rfl, hc⟩
      | (exfalso; omega)
      | exact absurd rfl (by assumption)
      | exact absurd (by simp only [*]) (by assumption)
  · -- else
    replace h11 := of_decide_eq_false h11
    refine cw_skip ?_
    refine hK6 _ _ ?_
    refine cw_seq fun K16 hK17 => ?_
    refine cw_region fun K18 hK19 => ?_
    refine rw_cons (op_pv (w0 rfl) rfl rfl (pv_assign (v := (.int .i64 1048576)) rfl rfl) ?_)
    refine rw_nil (hK19 _ _ ?_)
    refine hK17 _ _ ?_
    refine cw_seq fun K20 hK21 => ?_
    refine cw_region fun K22 hK23 => ?_
    refine rw_cons (op_pv (w0 rfl) rfl rfl (pv_move (v := (.slice A0 n0 c0)) rfl rfl) ?_)
    refine rw_cons (op_pv (w0 rfl) rfl rfl (pv_move (v := (.int .i64 1048576)) rfl rfl) ?_)
    refine rw_cons (op_call (w0 rfl) rfl rfl (rc_call C18 rfl rfl) (szFileS_ok _ n0 _ xs0 1048576 _ (hR0.more (by omega)) (hD0.any (by omega)) (by omega) (by omega) (by assumption)) ?_)
    rintro _ w24 ⟨r25, rfl, hr26, hch27⟩
    have hsz28 := hch27.size
    replace hR0 := hR0.ch0 hch27
    replace hD0 := hD0.ch0 hch27
    replace hc := hc.step0 hch27
    refine rw_cons (op_pv (w0 rfl) rfl rfl (pv_assign (v := (.int .i64 r25)) rfl rfl) ?_)
    refine rw_nil (hK23 _ _ ?_)
    refine hK21 _ _ ?_
    refine cw_seq fun K29 hK30 => ?_
    refine cw_seq fun K31 hK32 => ?_
    refine cw_region fun K33 hK34 => ?_
    refine rw_cons (op_pv (w0 rfl) rfl rfl (pv_move (v := (.int .i64 r25)) rfl rfl) ?_)
    refine rw_cons (op_pv (w0 rfl) rfl rfl (pv_lss rfl rfl rfl) ?_)
    refine rw_nil (hK34 _ _ ?_)
    refine hK32 _ _ ?_
    refine cw_cond rfl (fun h35 => ?_) (fun h35 => ?_)
    · -- then
      replace h35 := of_decide_eq_true h35
      refine cw_seq fun K36 hK37 => ?_
      refine cw_region fun K38 hK39 => ?_
      refine rw_cons (op_pv (w0 rfl) rfl rfl (pv_assign (v := (.bool true)) rfl rfl) ?_)
      refine rw_nil (hK39 _ _ ?_)
      refine hK37 _ _ ?_
      refine cw_ret ?_
      refine fin1 rfl ?_
      first
        | exact ⟨rfl, hc⟩
        | (exfalso; omega)
        | exact absurd rfl (by assumption)
        | exact absurd (by simp only [*]) (by assumption)
    · -- else
      replace h35 := of_decide_eq_false h35
      refine cw_skip ?_
      refine hK30 _ _ ?_
      refine cw_seq fun K40 hK41 => ?_
      have hZsz : SzOK xs0 := by rcases hr26 with h9 | h9 <;> first | omega | exact h9.2.2
      have hn20 : n0 ≤ 1048576 := by omega
      refine cw_region fun K42 hK43 => ?_
      refine rw_cons (op_pv (w0 rfl) rfl rfl (pv_move (v := (.slice A0 n0 c0)) rfl rfl) ?_)
      refine rw_cons (op_call (w0 rfl) rfl rfl (rc_call C20 rfl rfl) (toFileS_ok _ n0 _ xs0 _ (hR0.more (by omega)) (hD0.any (by omega)) (by first | assumption | omega) (by omega)) ?_)
      rintro _ w44 ⟨A46, c47, hs48, rfl, hO49, hDO50, hfe51, hZ52, hch45⟩
      have hsz53 := hch45.size
      replace hR0 := hR0.ch0 hch45
      replace hD0 := hD0.ch0 hch45
      replace hc := hc.step0 hch45
      have hub54 := hO49.lt
      have hcap55 : hs48.length ≤ c47 := by obtain ⟨_, _, hv, h1, _⟩ := hO49.form; injection hv with _ _ h3; omega
      have hfl56 : hs48.length = (fvs xs0).length := by rw [← hfe51, fvs_len]
      try rw [fvs_len] at hfl56
      refine rw_cons (op_pv (w0 rfl) rfl rfl (pv_move (v := (.string s1)) rfl rfl) ?_)
      refine rw_cons (op_call (w0 rfl) rfl rfl (rc_call C28 rfl rfl) (FileMake_s _ hs48.length _ hs48 s1 _ (hO49.rs (fun _ => rfl)) (hDO50.any (by omega)) (by first | assumption | exact SzOK.nil) (by omega) (by omega) (by omega)) ?_)
      rintro _ w57 ⟨A59, c60, hs61, rfl, hO62, hDO63, hfe64, hZ65, hch58⟩
      try rw [hfe51]
      try rw [hfe51] at hfe64
      have hsz66 := hch58.size
      replace hR0 := hR0.ch0 hch58
      replace hD0 := hD0.ch0 hch58
      replace hO49 := hO49.ch0 hch58
      replace hDO50 := hDO50.ch0 hch58
      replace hc := hc.step0 hch58
      have hub67 := hO62.lt
      have hcap68 : hs61.length ≤ c60 := by obtain ⟨_, _, hv, h1, _⟩ := hO62.form; injection hv with _ _ h3; omega
      have hfl69 : hs61.length = (makeV (fvs xs0) s1).length := by rw [← hfe64, fvs_len]
      try simp only [fvs_len, List.length_take, List.length_drop] at hfl69
      have hnt70 := makeV_le (fvs xs0) s1
      refine rw_cons (op_pv (w0 rfl) rfl rfl (pv_move (v := (.tuple #[(.slice A59 hs61.length c60), (.bool (dec (MakeOK (fvs xs0) s1)))])) rfl rfl) ?_)
      refine rw_cons (op_pv (w0 rfl) rfl rfl (pv_ext (v := (.slice A59 hs61.length c60)) rfl rfl rfl) ?_)
      refine rw_cons (op_pv (w0 rfl) rfl rfl (pv_ext (v := (.bool (dec (MakeOK (fvs xs0) s1)))) rfl rfl rfl) ?_)
      refine rw_cons (op_pv (w0 rfl) rfl rfl (pv_assign (v := (.slice A59 hs61.length c60)) rfl rfl) ?_)
      refine rw_cons (op_pv (w0 rfl) rfl rfl (pv_assign (v := (.bool (dec (MakeOK (fvs xs0) s1)))) rfl rfl) ?_)
      refine rw_nil (hK43 _ _ ?_)
      refine hK41 _ _ ?_
      refine cw_seq fun K71 hK72 => ?_
      refine cw_region fun K73 hK74 => ?_
      refine rw_cons (op_pv (w0 rfl) rfl rfl (pv_move (v := (.slice A0 n0 c0)) rfl rfl) ?_)
      refine rw_cons (op_call (w0 rfl) rfl rfl (rc_call C20 rfl rfl) (toFileS_ok _ n0 _ xs0 _ (hR0.more (by omega)) (hD0.any (by omega)) (by first | assumption | omega) (by omega)) ?_)
      rintro _ w75 ⟨A77, c78, hs79, rfl, hO80, hDO81, hfe82, hZ83, hch76⟩
      have hsz84 := hch76.size
      replace hR0 := hR0.ch0 hch76
      replace hD0 := hD0.ch0 hch76
      replace hO49 := hO49.ch0 hch76
      replace hDO50 := hDO50.ch0 hch76
      replace hO62 := hO62.ch0 hch76
      replace hDO63 := hDO63.ch0 hch76
      replace hc := hc.step0 hch76
      have hub85 := hO80.lt
      have hcap86 : hs79.length ≤ c78 := by obtain ⟨_, _, hv, h1, _⟩ := hO80.form; injection hv with _ _ h3; omega
      have hfl87 : hs79.length = (fvs xs0).length := by rw [← hfe82, fvs_len]
      try rw [fvs_len] at hfl87
      refine rw_cons (op_pv (w0 rfl) rfl rfl (pv_assign (v := (.slice A77 hs79.length c78)) rfl rfl) ?_)
      refine rw_nil (hK74 _ _ ?_)
      refine hK72 _ _ ?_
      refine cw_seq fun K88 hK89 => ?_
      refine cw_region fun K90 hK91 => ?_
      refine rw_cons (op_pv (w0 rfl) rfl rfl (pv_move (v := (.slice A77 hs79.length c78)) rfl rfl) ?_)
      refine rw_cons (op_pv (w0 rfl) rfl rfl (pv_move (v := (.string s1)) rfl rfl) ?_)
      refine rw_cons (op_call (w0 rfl) rfl rfl (rc_call C29 rfl rfl) (FileMake_i _ hs79.length _ hs79 s1 _ (hO80.rs (fun _ => rfl)) (hDO81.any (by omega)) (by first | assumption | exact SzOK.nil) (by omega) (by omega) (by omega)) ?_)
      rintro _ w92 ⟨A94, c95, hs96, rfl, hO97, hDO98, hfe99, hZ100, hch93⟩
      try rw [hfe82]
      try rw [hfe82] at hfe99
      have hsz101 := hch93.size
      replace hR0 := hR0.ch0 hch93
      replace hD0 := hD0.ch0 hch93
      replace hO49 := hO49.ch0 hch93
      replace hDO50 := hDO50.ch0 hch93
      replace hO62 := hO62.ch0 hch93
      replace hDO63 := hDO63.ch0 hch93
      replace hO80 := hO80.ch0 hch93
      replace hDO81 := hDO81.ch0 hch93
      replace hc := hc.step0 hch93
      have hub102 := hO97.lt
      have hcap103 : hs96.length ≤ c95 := by obtain ⟨_, _, hv, h1, _⟩ := hO97.form; injection hv with _ _ h3; omega
      have hfl104 : hs96.length = (makeV (fvs xs0) s1).length := by rw [← hfe99, fvs_len]
      try simp only [fvs_len, List.length_take, List.length_drop] at hfl104
      have hnt105 := makeV_le (fvs xs0) s1
      refine rw_cons (op_pv (w0 rfl) rfl rfl (pv_move (v := (.tuple #[(.slice A94 hs96.length c95), (.bool (dec (MakeOK (fvs xs0) s1)))])) rfl rfl) ?_)
      refine rw_cons (op_pv (w0 rfl) rfl rfl (pv_ext (v := (.slice A94 hs96.length c95)) rfl rfl rfl) ?_)
      refine rw_cons (op_pv (w0 rfl) rfl rfl (pv_ext (v := (.bool (dec (MakeOK (fvs xs0) s1)))) rfl rfl rfl) ?_)
      refine rw_cons (op_pv (w0 rfl) rfl rfl (pv_assign (v := (.slice A94 hs96.length c95)) rfl rfl) ?_)
      refine rw_cons (op_pv (w0 rfl) rfl rfl (pv_assign (v := (.bool (dec (MakeOK (fvs xs0) s1)))) rfl rfl) ?_)
      refine rw_nil (hK91 _ _ ?_)
      refine hK89 _ _ ?_
      refine cw_seq fun K106 hK107 => ?_
      refine cw_seq fun K108 hK109 => ?_
      refine cw_region fun K110 hK111 => ?_
      refine rw_cons (op_pv (w0 rfl) rfl rfl (pv_move (v := (.slice A94 hs96.length c95)) rfl rfl) ?_)
      refine rw_cons (op_pv (w0 rfl) rfl rfl (pv_move (v := (.slice A59 hs61.length c60)) rfl rfl) ?_)
      refine rw_cons (op_call (w0 rfl) rfl rfl (rc_call C22 rfl rfl) (eqFileS_ok _ hs96.length _ hs96 _ hs61.length _ hs61 _ (hO97.rs (fun _ => rfl)) (hDO98.any (by omega)) (by first | assumption | exact SzOK.nil) (by omega) (hO62.rs (fun _ => rfl)) (hDO63.any (by omega)) (by first | assumption | exact SzOK.nil) (by omega)) ?_)
      rintro _ w112 ⟨rfl, hch113⟩
      try rw [hfe99]
      try rw [hfe64]
      have hsz114 := hch113.size
      replace hR0 := hR0.ch0 hch113
      replace hD0 := hD0.ch0 hch113
      replace hO49 := hO49.ch0 hch113
      replace hDO50 := hDO50.ch0 hch113
      replace hO62 := hO62.ch0 hch113
      replace hDO63 := hDO63.ch0 hch113
      replace hO80 := hO80.ch0 hch113
      replace hDO81 := hDO81.ch0 hch113
      replace hO97 := hO97.ch0 hch113
      replace hDO98 := hDO98.ch0 hch113
      replace hc := hc.step0 hch113
      refine rw_cons (op_pv (w0 rfl) rfl rfl (pv_not rfl rfl) ?_)
      refine rw_cons (op_pv (w0 rfl) rfl rfl (pv_move (v := (.bool (!(dec (makeV (fvs xs0) s1 = makeV (fvs xs0) s1))))) rfl rfl) ?_)
      refine rw_split 43 rfl (fun hb115 => ?_) (fun hb115 => ?_)
      · -- yes
        replace hb115 := not_t hb115
        replace hb115 := dec_f hb115
        refine rw_cons (op_pass (w1n2 rfl rfl rfl rfl) rfl rfl ?_)
        refine rw_cons (op_pass (w1n2 rfl rfl rfl rfl) rfl rfl ?_)
        refine rw_cons (op_pass (w1n2 rfl rfl rfl rfl) rfl rfl ?_)
        refine rw_cons (op_pv (w0 rfl) rfl rfl (pv_pickT (v := (.bool true)) rfl rfl rfl) ?_)
        refine rw_nil (hK111 _ _ ?_)
        refine hK109 _ _ ?_
        refine cw_cond rfl (fun h116 => ?_) (fun h116 => ?_)
        · -- then
          clear h116
          refine cw_seq fun K117 hK118 => ?_
          refine cw_region fun K119 hK120 => ?_
          refine rw_cons (op_pv (w0 rfl) rfl rfl (pv_assign (v := (.bool false)) rfl rfl) ?_)
          refine rw_nil (hK120 _ _ ?_)
          refine hK118 _ _ ?_
          refine cw_ret ?_
          refine fin1 rfl ?_
          first
            | exact ⟨rfl, hc⟩
            | (exfalso; omega)
            | exact absurd rfl (by assumption)
            | exact absurd (by simp only [*]) (by assumption)
        · -- else
          cases h116
      · -- no
        replace hb115 := not_f hb115
        replace hb115 := dec_t hb115
        refine rw_cons (op_pv (w1y rfl rfl rfl rfl) rfl rfl (pv_move (v := (.bool (dec (MakeOK (fvs xs0) s1)))) rfl rfl) ?_)
        refine rw_cons (op_pv (w1y rfl rfl rfl rfl) rfl rfl (pv_move (v := (.bool (dec (MakeOK (fvs xs0) s1)))) rfl rfl) ?_)
        refine rw_cons (op_pv (w1y rfl rfl rfl rfl) rfl rfl (pv_neBs Try.underlying4 rfl rfl rfl) ?_)
        refine rw_cons (op_pv (w0 rfl) rfl rfl (pv_pickF (v := (.bool false)) rfl rfl rfl) ?_)
        refine rw_nil (hK111 _ _ ?_)
        refine hK109 _ _ ?_
        refine cw_cond rfl (fun h121 => ?_) (fun h121 => ?_)
        · -- then
          cases h121
        · -- else
          clear h121
          refine cw_skip ?_
          refine hK107 _ _ ?_
          refine cw_seq fun K122 hK123 => ?_
          refine cw_seq fun K124 hK125 => ?_
          refine cw_region fun K126 hK127 => ?_
          refine rw_cons (op_pv (w0 rfl) rfl rfl (pv_move (v := (.slice A77 hs79.length c78)) rfl rfl) ?_)
          refine rw_cons (op_pv (w0 rfl) rfl rfl (pv_move (v := (.slice A0 n0 c0)) rfl rfl) ?_)
          refine rw_cons (op_call (w0 rfl) rfl rfl (rc_call C20 rfl rfl) (toFileS_ok _ n0 _ xs0 _ (hR0.more (by omega)) (hD0.any (by omega)) (by first | assumption | omega) (by omega)) ?_)
          rintro _ w128 ⟨A130, c131, hs132, rfl, hO133, hDO134, hfe135, hZ136, hch129⟩
          have hsz137 := hch129.size
          replace hR0 := hR0.ch0 hch129
          replace hD0 := hD0.ch0 hch129
          replace hO49 := hO49.ch0 hch129
          replace hDO50 := hDO50.ch0 hch129
          replace hO62 := hO62.ch0 hch129
          replace hDO63 := hDO63.ch0 hch129
          replace hO80 := hO80.ch0 hch129
          replace hDO81 := hDO81.ch0 hch129
          replace hO97 := hO97.ch0 hch129
          replace hDO98 := hDO98.ch0 hch129
          replace hc := hc.step0 hch129
          have hub138 := hO133.lt
          have hcap139 : hs132.length ≤ c131 := by obtain ⟨_, _, hv, h1, _⟩ := hO133.form; injection hv with _ _ h3; omega
          have hfl140 : hs132.length = (fvs xs0).length := by rw [← hfe135, fvs_len]
          try rw [fvs_len] at hfl140
          refine rw_cons (op_call (w0 rfl) rfl rfl (rc_call C22 rfl rfl) (eqFileS_ok _ hs79.length _ hs79 _ hs132.length _ hs132 _ (hO80.rs (fun _ => rfl)) (hDO81.any (by omega)) (by first | assumption | exact SzOK.nil) (by omega) (hO133.rs (fun _ => rfl)) (hDO134.any (by omega)) (by first | assumption | exact SzOK.nil) (by omega)) ?_)
          rintro _ w141 ⟨rfl, hch142⟩
          try rw [hfe82]
          try rw [hfe135]
          have hsz143 := hch142.size
          replace hR0 := hR0.ch0 hch142
          replace hD0 := hD0.ch0 hch142
          replace hO49 := hO49.ch0 hch142
          replace hDO50 := hDO50.ch0 hch142
          replace hO62 := hO62.ch0 hch142
          replace hDO63 := hDO63.ch0 hch142
          replace hO80 := hO80.ch0 hch142
          replace hDO81 := hDO81.ch0 hch142
          replace hO97 := hO97.ch0 hch142
          replace hDO98 := hDO98.ch0 hch142
          replace hO133 := hO133.ch0 hch142
          replace hDO134 := hDO134.ch0 hch142
          replace hc := hc.step0 hch142
          refine rw_cons (op_pv (w0 rfl) rfl rfl (pv_not rfl rfl) ?_)
          refine rw_nil (hK127 _ _ ?_)
          refine hK125 _ _ ?_
          refine cw_cond rfl (fun h144 => ?_) (fun h144 => ?_)
          · -- then
            replace h144 := not_t h144
            replace h144 := dec_f h144
            refine cw_seq fun K145 hK146 => ?_
            refine cw_region fun K147 hK148 => ?_
            refine rw_cons (op_pv (w0 rfl) rfl rfl (pv_assign (v := (.bool false)) rfl rfl) ?_)
            refine rw_nil (hK148 _ _ ?_)
            refine hK146 _ _ ?_
            refine cw_ret ?_
            refine fin1 rfl ?_
            first
              | exact ⟨rfl, hc⟩
              | (exfalso; omega)
              | exact absurd rfl (by assumption)
              | exact absurd (by simp only [*]) (by assumption)
          · -- else
            replace h144 := not_f h144
            replace h144 := dec_t h144
            refine cw_skip ?_
            refine hK123 _ _ ?_
            refine cw_seq fun K149 hK150 => ?_
            refine cw_region fun K151 hK152 => ?_
            refine rw_cons (op_pv (w0 rfl) rfl rfl (pv_assign (v := (.int .i64 1)) rfl rfl) ?_)
            refine rw_nil (hK152 _ _ ?_)
            refine hK150 _ _ ?_
            refine cw_seq fun K153 hK154 => ?_
            refine cw_region fun K155 hK156 => ?_
            refine rw_cons (op_pv (w0 rfl) rfl rfl (pv_move (v := (.slice A77 hs79.length c78)) rfl rfl) ?_)
            refine rw_cons (op_pv (w0 rfl) rfl rfl (pv_move (v := (.int .i64 1)) rfl rfl) ?_)
            have hZm164 : SzOK hs79 := by assumption
            refine rw_cons (op_call (w0 rfl) rfl rfl (rc_call C24 rfl rfl) (markFileS_ok _ hs79.length _ w57.heap.size w75.heap.size hs79 1 _ hO80 hDO81 hZm164 (fun s h => Nat.lt_of_lt_of_le (hub85 s h) (by omega)) (by omega) (by omega) (by omega) (by omega) (by omega)) ?_)
            rintro _ w157 ⟨ys158, rfl, hsh159, hmk160, hO161, hDO162, hch163⟩
            have hsz165 := hch163.size
            replace hR0 := hR0.ch hch163 (fun s hs => by have := range_lim hs; omega)
            replace hD0 := hD0.ch hch163 (fun s hs => by have h9 := range_lim hs; first | (left; omega) | (right; right; omega))
            replace hO49 := hO49.ch hch163 (fun s hs hs2 => by have h9 := range_lim hs2; first | (have := hub54 s hs; omega) | (have := hO49.off s hs; omega))
            replace hDO50 := hDO50.ch hch163 (fun s hs => by have h9 := range_lim hs; first | (left; omega) | (right; right; omega))
            replace hO62 := hO62.ch hch163 (fun s hs hs2 => by have h9 := range_lim hs2; first | (have := hub67 s hs; omega) | (have := hO62.off s hs; omega))
            replace hDO63 := hDO63.ch hch163 (fun s hs => by have h9 := range_lim hs; first | (left; omega) | (right; right; omega))
            replace hO97 := hO97.ch hch163 (fun s hs hs2 => by have h9 := range_lim hs2; first | (have := hub102 s hs; omega) | (have := hO97.off s hs; omega))
            replace hDO98 := hDO98.ch hch163 (fun s hs => by have h9 := range_lim hs; first | (left; omega) | (right; right; omega))
            replace hO133 := hO133.ch hch163 (fun s hs hs2 => by have h9 := range_lim hs2; first | (have := hub138 s hs; omega) | (have := hO133.off s hs; omega))
            replace hDO134 := hDO134.ch hch163 (fun s hs => by have h9 := range_lim hs; first | (left; omega) | (right; right; omega))
            replace hc := hc.step hch163 (fun s hs => by right; have := range_lim hs; omega)
            clear hO80 hDO81; have hO80 := hO161; have hDO81 := hDO162; clear hO161 hDO162
            have hob166 := offs_bd hZm164.nok hs79.length (by omega)
            refine rw_cons (op_pv (w0 rfl) rfl rfl (pv_assign (v := (.int .i64 (1 + ((offs hs79 hs79.length : Nat) : Int)))) rfl rfl) ?_)
            refine rw_nil (hK156 _ _ ?_)
            refine hK154 _ _ ?_
            refine cw_seq fun K167 hK168 => ?_
            refine cw_seq fun K169 hK170 => ?_
            refine cw_region fun K171 hK172 => ?_
            refine rw_cons (op_pv (w0 rfl) rfl rfl (pv_move (v := (.int .i64 (1 + ((offs hs79 hs79.length : Nat) : Int)))) rfl rfl) ?_)
            refine rw_cons (op_pv (w0 rfl) rfl rfl (pv_lss rfl rfl rfl) ?_)
            refine rw_cons (op_pv (w0 rfl) rfl rfl (pv_move (v := (.bool (decide ((1 + ((offs hs79 hs79.length : Nat) : Int)) < 0)))) rfl rfl) ?_)
            refine rw_split 58 rfl (fun hb173 => ?_) (fun hb173 => ?_)
            · -- yes
              replace hb173 := of_decide_eq_true hb173
              refine rw_cons (op_pass (w1n2 rfl rfl rfl rfl) rfl rfl ?_)
              refine rw_cons (op_pass (w1n2 rfl rfl rfl rfl) rfl rfl ?_)
              refine rw_cons (op_pass (w1n2 rfl rfl rfl rfl) rfl rfl ?_)
              refine rw_cons (op_pass (w1n2 rfl rfl rfl rfl) rfl rfl ?_)
              refine rw_cons (op_pv (w0 rfl) rfl rfl (pv_pickT (v := (.bool true)) rfl rfl rfl) ?_)
              refine rw_cons (op_pv (w0 rfl) rfl rfl (pv_move (v := (.bool true)) rfl rfl) ?_)
              refine rw_cons (op_pass (w1n2 rfl rfl rfl rfl) rfl rfl ?_)
              refine rw_cons (op_pass (w1n2 rfl rfl rfl rfl) rfl rfl ?_)
              refine rw_cons (op_pass (w1n2 rfl rfl rfl rfl) rfl rfl ?_)
              refine rw_cons (op_pv (w0 rfl) rfl rfl (pv_pickT (v := (.bool true)) rfl rfl rfl) ?_)
              refine rw_nil (hK172 _ _ ?_)
              refine hK170 _ _ ?_
              refine cw_cond rfl (fun h174 => ?_) (fun h174 => ?_)
              · -- then
                clear h174
                refine cw_seq fun K175 hK176 => ?_
                refine cw_region fun K177 hK178 => ?_
                refine rw_cons (op_pv (w0 rfl) rfl rfl (pv_assign (v := (.bool false)) rfl rfl) ?_)
                refine rw_nil (hK178 _ _ ?_)
                refine hK176 _ _ ?_
                refine cw_ret ?_
                refine fin1 rfl ?_
                first
                  | exact ⟨rfl, hc⟩
                  | (exfalso; omega)
                  | exact absurd rfl (by assumption)
                  | exact absurd (by simp only [*]) (by assumption)
              · -- else
                cases h174
            · -- no
              replace hb173 := of_decide_eq_false hb173
              refine rw_cons (op_pv (w1y rfl rfl rfl rfl) rfl rfl (pv_move (v := (.slice A94 hs96.length c95)) rfl rfl) ?_)
              refine rw_cons (op_pv (w1y rfl rfl rfl rfl) rfl rfl (pv_move (v := (.slice A59 hs61.length c60)) rfl rfl) ?_)
              refine rw_cons (op_call (w1y rfl rfl rfl rfl) rfl rfl (rc_call C22 rfl rfl) (eqFileS_ok _ hs96.length _ hs96 _ hs61.length _ hs61 _ (hO97.rs (fun _ => rfl)) (hDO98.any (by omega)) (by first | assumption | exact SzOK.nil) (by omega) (hO62.rs (fun _ => rfl)) (hDO63.any (by omega)) (by first | assumption | exact SzOK.nil) (by omega)) ?_)
              rintro _ w179 ⟨rfl, hch180⟩
              try rw [hfe99]
              try rw [hfe64]
              have hsz181 := hch180.size
              replace hR0 := hR0.ch0 hch180
              replace hD0 := hD0.ch0 hch180
              replace hO49 := hO49.ch0 hch180
              replace hDO50 := hDO50.ch0 hch180
              replace hO62 := hO62.ch0 hch180
              replace hDO63 := hDO63.ch0 hch180
              replace hO80 := hO80.ch0 hch180
              replace hDO81 := hDO81.ch0 hch180
              replace hO97 := hO97.ch0 hch180
              replace hDO98 := hDO98.ch0 hch180
              replace hO133 := hO133.ch0 hch180
              replace hDO134 := hDO134.ch0 hch180
              replace hc := hc.step0 hch180
              refine rw_cons (op_pv (w1y rfl rfl rfl rfl) rfl rfl (pv_not rfl rfl) ?_)
              refine rw_cons (op_pv (w0 rfl) rfl rfl (pv_pickF (v := (.bool (!(dec (makeV (fvs xs0) s1 = makeV (fvs xs0) s1))))) rfl rfl rfl) ?_)
              refine rw_cons (op_pv (w0 rfl) rfl rfl (pv_move (v := (.bool (!(dec (makeV (fvs xs0) s1 = makeV (fvs xs0) s1))))) rfl rfl) ?_)
              refine rw_split 64 rfl (fun hb182 => ?_) (fun hb182 => ?_)
              · -- yes
                replace hb182 := not_t hb182
                replace hb182 := dec_f hb182
                refine rw_cons (op_pass (w1n2 rfl rfl rfl rfl) rfl rfl ?_)
                refine rw_cons (op_pass (w1n2 rfl rfl rfl rfl) rfl rfl ?_)
                refine rw_cons (op_pass (w1n2 rfl rfl rfl rfl) rfl rfl ?_)
                refine rw_cons (op_pv (w0 rfl) rfl rfl (pv_pickT (v := (.bool true)) rfl rfl rfl) ?_)
                refine rw_nil (hK172 _ _ ?_)
                refine hK170 _ _ ?_
                refine cw_cond rfl (fun h183 => ?_) (fun h183 => ?_)
                · -- then
                  clear h183
                  refine cw_seq fun K184 hK185 => ?_
                  refine cw_region fun K186 hK187 => ?_
                  refine rw_cons (op_pv (w0 rfl) rfl rfl (pv_assign (v := (.bool false)) rfl rfl) ?_)
                  refine rw_nil (hK187 _ _ ?_)
                  refine hK185 _ _ ?_
                  refine cw_ret ?_
                  refine fin1 rfl ?_
                  first
                    | exact ⟨rfl, hc⟩
                    | (exfalso; omega)
                    | exact absurd rfl (by assumption)
                    | exact absurd (by simp only [*]) (by assumption)
                · -- else
                  cases h183
              · -- no
                replace hb182 := not_f hb182
                replace hb182 := dec_t hb182
                refine rw_cons (op_pv (w1y rfl rfl rfl rfl) rfl rfl (pv_move (v := (.bool (dec (MakeOK (fvs xs0) s1)))) rfl rfl) ?_)
                refine rw_cons (op_pv (w1y rfl rfl rfl rfl) rfl rfl (pv_move (v := (.bool (dec (MakeOK (fvs xs0) s1)))) rfl rfl) ?_)
                refine rw_cons (op_pv (w1y rfl rfl rfl rfl) rfl rfl (pv_neBs Try.underlying4 rfl rfl rfl) ?_)
                refine rw_cons (op_pv (w0 rfl) rfl rfl (pv_pickF (v := (.bool false)) rfl rfl rfl) ?_)
                refine rw_nil (hK172 _ _ ?_)
                refine hK170 _ _ ?_
                refine cw_cond rfl (fun h188 => ?_) (fun h188 => ?_)
                · -- then
                  cases h188
                · -- else
                  clear h188
                  refine cw_skip ?_
                  refine hK168 _ _ ?_
                  refine cw_seq fun K189 hK190 => ?_
                  refine cw_region fun K191 hK192 => ?_
                  refine rw_cons (op_pv (w0 rfl) rfl rfl (pv_assign (v := (.int .i64 1)) rfl rfl) ?_)
                  refine rw_nil (hK192 _ _ ?_)
                  refine hK190 _ _ ?_
                  refine cw_seq fun K193 hK194 => ?_
                  refine cw_region fun K195 hK196 => ?_
                  refine rw_cons (op_pv (w0 rfl) rfl rfl (pv_move (v := (.slice A94 hs96.length c95)) rfl rfl) ?_)
                  refine rw_cons (op_pv (w0 rfl) rfl rfl (pv_move (v := (.int .i64 1)) rfl rfl) ?_)
                  have hZm204 : SzOK hs96 := by assumption
                  refine rw_cons (op_call (w0 rfl) rfl rfl (rc_call C24 rfl rfl) (markFileS_ok _ hs96.length _ w75.heap.size w92.heap.size hs96 1 _ hO97 hDO98 hZm204 (fun s h => Nat.lt_of_lt_of_le (hub102 s h) (by omega)) (by omega) (by omega) (by omega) (by omega) (by omega)) ?_)
                  rintro _ w197 ⟨ys198, rfl, hsh199, hmk200, hO201, hDO202, hch203⟩
                  have hsz205 := hch203.size
                  replace hR0 := hR0.ch hch203 (fun s hs => by have := range_lim hs; omega)
                  replace hD0 := hD0.ch hch203 (fun s hs => by have h9 := range_lim hs; first | (left; omega) | (right; right; omega))
                  replace hO49 := hO49.ch hch203 (fun s hs hs2 => by have h9 := range_lim hs2; first | (have := hub54 s hs; omega) | (have := hO49.off s hs; omega))
                  replace hDO50 := hDO50.ch hch203 (fun s hs => by have h9 := range_lim hs; first | (left; omega) | (right; right; omega))
                  replace hO62 := hO62.ch hch203 (fun s hs hs2 => by have h9 := range_lim hs2; first | (have := hub67 s hs; omega) | (have := hO62.off s hs; omega))
                  replace hDO63 := hDO63.ch hch203 (fun s hs => by have h9 := range_lim hs; first | (left; omega) | (right; right; omega))
                  replace hO80 := hO80.ch hch203 (fun s hs hs2 => by have h9 := range_lim hs2; first | (have := hub85 s hs; omega) | (have := hO80.off s hs; omega))
                  replace hDO81 := hDO81.ch hch203 (fun s hs => by have h9 := range_lim hs; first | (left; omega) | (right; right; omega))
                  replace hO133 := hO133.ch hch203 (fun s hs hs2 => by have h9 := range_lim hs2; first | (have := hub138 s hs; omega) | (have := hO133.off s hs; omega))
                  replace hDO134 := hDO134.ch hch203 (fun s hs => by have h9 := range_lim hs; first | (left; omega) | (right; right; omega))
                  replace hc := hc.step hch203 (fun s hs => by right; have := range_lim hs; omega)
                  clear hO97 hDO98; have hO97 := hO201; have hDO98 := hDO202; clear hO201 hDO202
                  have hob206 := offs_bd hZm204.nok hs96.length (by omega)
                  refine rw_cons (op_pv (w0 rfl) rfl rfl (pv_assign (v := (.int .i64 (1 + ((offs hs96 hs96.length : Nat) : Int)))) rfl rfl) ?_)
                  refine rw_nil (hK196 _ _ ?_)
                  refine hK194 _ _ ?_
                  refine cw_seq fun K207 hK208 => ?_
                  refine cw_region fun K209 hK210 => ?_
                  refine rw_cons (op_pv (w0 rfl) rfl rfl (pv_assign (v := (.int .i64 1)) rfl rfl) ?_)
                  refine rw_nil (hK210 _ _ ?_)
                  refine hK208 _ _ ?_
                  refine cw_seq fun K211 hK212 => ?_
                  refine cw_region fun K213 hK214 => ?_
                  refine rw_cons (op_pv (w0 rfl) rfl rfl (pv_move (v := (.slice A94 hs96.length c95)) rfl rfl) ?_)
                  refine rw_cons (op_pv (w0 rfl) rfl rfl (pv_move (v := (.int .i64 1)) rfl rfl) ?_)
                  refine rw_cons (op_call (w0 rfl) rfl rfl (rc_call C26 rfl rfl) (heldFileS_ok _ hs96.length _ ys198 1 _ (hO97.rs (fun _ => rfl)) (hDO98.any (by omega)) (Shape.nok hsh199 hZm204.nok) hmk200 (by omega) (by omega) (by omega)) ?_)
                  rintro _ w215 ⟨rfl, hch216⟩
                  rw [offs_same (hs := hs96) (ys := ys198) (fun k => (hsh199.2 k).2.1)]
                  have hsz217 := hch216.size
                  replace hR0 := hR0.ch0 hch216
                  replace hD0 := hD0.ch0 hch216
                  replace hO49 := hO49.ch0 hch216
                  replace hDO50 := hDO50.ch0 hch216
                  replace hO62 := hO62.ch0 hch216
                  replace hDO63 := hDO63.ch0 hch216
                  replace hO80 := hO80.ch0 hch216
                  replace hDO81 := hDO81.ch0 hch216
                  replace hO97 := hO97.ch0 hch216
                  replace hDO98 := hDO98.ch0 hch216
                  replace hO133 := hO133.ch0 hch216
                  replace hDO134 := hDO134.ch0 hch216
                  replace hc := hc.step0 hch216
                  refine rw_cons (op_pv (w0 rfl) rfl rfl (pv_assign (v := (.int .i64 (1 + ((offs hs96 hs96.length : Nat) : Int)))) rfl rfl) ?_)
                  refine rw_nil (hK214 _ _ ?_)
                  refine hK212 _ _ ?_
                  refine cw_seq fun K218 hK219 => ?_
                  refine cw_seq fun K220 hK221 => ?_
                  refine cw_region fun K222 hK223 => ?_
                  refine rw_cons (op_pv (w0 rfl) rfl rfl (pv_move (v := (.int .i64 (1 + ((offs hs96 hs96.length : Nat) : Int)))) rfl rfl) ?_)
                  refine rw_cons (op_pv (w0 rfl) rfl rfl (pv_lss rfl rfl rfl) ?_)
                  refine rw_nil (hK223 _ _ ?_)
                  refine hK221 _ _ ?_
                  refine cw_cond rfl (fun h224 => ?_) (fun h224 => ?_)
                  · -- then
                    replace h224 := of_decide_eq_true h224
                    refine cw_seq fun K225 hK226 => ?_
                    refine cw_region fun K227 hK228 => ?_
                    refine rw_cons (op_pv (w0 rfl) rfl rfl (pv_assign (v := (.bool false)) rfl rfl) ?_)
                    refine rw_nil (hK228 _ _ ?_)
                    refine hK226 _ _ ?_
                    refine cw_ret ?_
                    refine fin1 rfl ?_
                    first
                      | exact ⟨rfl, hc⟩
                      | (exfalso; omega)
                      | exact absurd rfl (by assumption)
                      | exact absurd (by simp only [*]) (by assumption)
                  · -- else
                    replace h224 := of_decide_eq_false h224
                    refine cw_skip ?_
                    refine hK219 _ _ ?_
                    refine cw_seq fun K229 hK230 => ?_
                    refine cw_seq fun K231 hK232 => ?_
                    refine cw_region fun K233 hK234 => ?_
                    refine rw_cons (op_pv (w0 rfl) rfl rfl (pv_move (v := (.int .i64 (1 + ((offs hs96 hs96.length : Nat) : Int)))) rfl rfl) ?_)
                    refine rw_cons (op_pv (w0 rfl) rfl rfl (pv_move (v := (.int .i64 (1 + ((offs hs96 hs96.length : Nat) : Int)))) rfl rfl) ?_)
                    refine rw_cons (op_pv (w0 rfl) rfl rfl (pv_nes rfl rfl rfl) ?_)
                    refine rw_nil (hK234 _ _ ?_)
                    refine hK232 _ _ ?_
                    refine cw_cond rfl (fun h235 => ?_) (fun h235 => ?_)
                    · -- then
                      cases h235
                    · -- else
                      clear h235
                      refine cw_skip ?_
                      refine hK230 _ _ ?_
                      refine cw_seq fun K236 hK237 => ?_
                      refine cw_region fun K238 hK239 => ?_
                      refine rw_cons (op_pv (w0 rfl) rfl rfl (pv_move (v := (.slice A0 n0 c0)) rfl rfl) ?_)
                      refine rw_cons (op_call (w0 rfl) rfl rfl (rc_call C20 rfl rfl) (toFileS_ok _ n0 _ xs0 _ (hR0.more (by omega)) (hD0.any (by omega)) (by first | assumption | omega) (by omega)) ?_)
                      rintro _ w240 ⟨A242, c243, hs244, rfl, hO245, hDO246, hfe247, hZ248, hch241⟩
                      have hsz249 := hch241.size
                      replace hR0 := hR0.ch0 hch241
                      replace hD0 := hD0.ch0 hch241
                      replace hO49 := hO49.ch0 hch241
                      replace hDO50 := hDO50.ch0 hch241
                      replace hO62 := hO62.ch0 hch241
                      replace hDO63 := hDO63.ch0 hch241
                      replace hO80 := hO80.ch0 hch241
                      replace hDO81 := hDO81.ch0 hch241
                      replace hO97 := hO97.ch0 hch241
                      replace hDO98 := hDO98.ch0 hch241
                      replace hO133 := hO133.ch0 hch241
                      replace hDO134 := hDO134.ch0 hch241
                      replace hc := hc.step0 hch241
                      have hub250 := hO245.lt
                      have hcap251 : hs244.length ≤ c243 := by obtain ⟨_, _, hv, h1, _⟩ := hO245.form; injection hv with _ _ h3; omega
                      have hfl252 : hs244.length = (fvs xs0).length := by rw [← hfe247, fvs_len]
                      try rw [fvs_len] at hfl252
                      refine rw_cons (op_pv (w0 rfl) rfl rfl (pv_move (v := (.string s1)) rfl rfl) ?_)
                      refine rw_cons (op_call (w0 rfl) rfl rfl (rc_call C29 rfl rfl) (FileMake_i _ hs244.length _ hs244 s1 _ (hO245.rs (fun _ => rfl)) (hDO246.any (by omega)) (by first | assumption | exact SzOK.nil) (by omega) (by omega) (by omega)) ?_)
                      rintro _ w253 ⟨A255, c256, hs257, rfl, hO258, hDO259, hfe260, hZ261, hch254⟩
                      try rw [hfe247]
                      try rw [hfe247] at hfe260
                      have hsz262 := hch254.size
                      replace hR0 := hR0.ch0 hch254
                      replace hD0 := hD0.ch0 hch254
                      replace hO49 := hO49.ch0 hch254
                      replace hDO50 := hDO50.ch0 hch254
                      replace hO62 := hO62.ch0 hch254
                      replace hDO63 := hDO63.ch0 hch254
                      replace hO80 := hO80.ch0 hch254
                      replace hDO81 := hDO81.ch0 hch254
                      replace hO97 := hO97.ch0 hch254
                      replace hDO98 := hDO98.ch0 hch254
                      replace hO133 := hO133.ch0 hch254
                      replace hDO134 := hDO134.ch0 hch254
                      replace hO245 := hO245.ch0 hch254
                      replace hDO246 := hDO246.ch0 hch254
                      replace hc := hc.step0 hch254
                      have hub263 := hO258.lt
                      have hcap264 : hs257.length ≤ c256 := by obtain ⟨_, _, hv, h1, _⟩ := hO258.form; injection hv with _ _ h3; omega
                      have hfl265 : hs257.length = (makeV (fvs xs0) s1).length := by rw [← hfe260, fvs_len]
                      try simp only [fvs_len, List.length_take, List.length_drop] at hfl265
                      have hnt266 := makeV_le (fvs xs0) s1
                      refine rw_cons (op_pv (w0 rfl) rfl rfl (pv_move (v := (.tuple #[(.slice A255 hs257.length c256), (.bool (dec (MakeOK (fvs xs0) s1)))])) rfl rfl) ?_)
                      refine rw_cons (op_pv (w0 rfl) rfl rfl (pv_ext (v := (.slice A255 hs257.length c256)) rfl rfl rfl) ?_)
                      refine rw_cons (op_pv (w0 rfl) rfl rfl (pv_ext (v := (.bool (dec (MakeOK (fvs xs0) s1)))) rfl rfl rfl) ?_)
                      refine rw_cons (op_pv (w0 rfl) rfl rfl (pv_assign (v := (.slice A255 hs257.length c256)) rfl rfl) ?_)
                      refine rw_cons (op_pv (w0 rfl) rfl rfl (pv_assign (v := (.bool (dec (MakeOK (fvs xs0) s1)))) rfl rfl) ?_)
                      refine rw_nil (hK239 _ _ ?_)
                      refine hK237 _ _ ?_
                      refine cw_seq fun K267 hK268 => ?_
                      refine cw_seq fun K269 hK270 => ?_
                      refine cw_region fun K271 hK272 => ?_
                      refine rw_cons (op_pv (w0 rfl) rfl rfl (pv_move (v := (.slice A255 hs257.length c256)) rfl rfl) ?_)
                      refine rw_cons (op_pv (w0 rfl) rfl rfl (pv_move (v := (.slice A59 hs61.length c60)) rfl rfl) ?_)
                      refine rw_cons (op_call (w0 rfl) rfl rfl (rc_call C22 rfl rfl) (eqFileS_ok _ hs257.length _ hs257 _ hs61.length _ hs61 _ (hO258.rs (fun _ => rfl)) (hDO259.any (by omega)) (by first | assumption | exact SzOK.nil) (by omega) (hO62.rs (fun _ => rfl)) (hDO63.any (by omega)) (by first | assumption | exact SzOK.nil) (by omega)) ?_)
                      rintro _ w273 ⟨rfl, hch274⟩
                      try rw [hfe260]
                      try rw [hfe64]
                      have hsz275 := hch274.size
                      replace hR0 := hR0.ch0 hch274
                      replace hD0 := hD0.ch0 hch274
                      replace hO49 := hO49.ch0 hch274
                      replace hDO50 := hDO50.ch0 hch274
                      replace hO62 := hO62.ch0 hch274
                      replace hDO63 := hDO63.ch0 hch274
                      replace hO80 := hO80.ch0 hch274
                      replace hDO81 := hDO81.ch0 hch274
                      replace hO97 := hO97.ch0 hch274
                      replace hDO98 := hDO98.ch0 hch274
                      replace hO133 := hO133.ch0 hch274
                      replace hDO134 := hDO134.ch0 hch274
                      replace hO245 := hO245.ch0 hch274
                      replace hDO246 := hDO246.ch0 hch274
                      replace hO258 := hO258.ch0 hch274
                      replace hDO259 := hDO259.ch0 hch274
                      replace hc := hc.step0 hch274
                      refine rw_cons (op_pv (w0 rfl) rfl rfl (pv_not rfl rfl) ?_)
                      refine rw_cons (op_pv (w0 rfl) rfl rfl (pv_move (v := (.bool (!(dec (makeV (fvs xs0) s1 = makeV (fvs xs0) s1))))) rfl rfl) ?_)
                      refine rw_split 91 rfl (fun hb276 => ?_) (fun hb276 => ?_)
                      · -- yes
                        replace hb276 := not_t hb276
                        replace hb276 := dec_f hb276
                        refine rw_cons (op_pass (w1n2 rfl rfl rfl rfl) rfl rfl ?_)
                        refine rw_cons (op_pass (w1n2 rfl rfl rfl rfl) rfl rfl ?_)
                        refine rw_cons (op_pass (w1n2 rfl rfl rfl rfl) rfl rfl ?_)
                        refine rw_cons (op_pv (w0 rfl) rfl rfl (pv_pickT (v := (.bool true)) rfl rfl rfl) ?_)
                        refine rw_nil (hK272 _ _ ?_)
                        refine hK270 _ _ ?_
                        refine cw_cond rfl (fun h277 => ?_) (fun h277 => ?_)
                        · -- then
                          clear h277
                          refine cw_seq fun K278 hK279 => ?_
                          refine cw_region fun K280 hK281 => ?_
                          refine rw_cons (op_pv (w0 rfl) rfl rfl (pv_assign (v := (.bool false)) rfl rfl) ?_)
                          refine rw_nil (hK281 _ _ ?_)
                          refine hK279 _ _ ?_
                          refine cw_ret ?_
                          refine fin1 rfl ?_
                          first
                            | exact ⟨rfl, hc⟩
                            | (exfalso; omega)
                            | exact absurd rfl (by assumption)
                            | exact absurd (by simp only [*]) (by assumption)
                        · -- else
                          cases h277
                      · -- no
                        replace hb276 := not_f hb276
                        replace hb276 := dec_t hb276
                        refine rw_cons (op_pv (w1y rfl rfl rfl rfl) rfl rfl (pv_move (v := (.bool (dec (MakeOK (fvs xs0) s1)))) rfl rfl) ?_)
                        refine rw_cons (op_pv (w1y rfl rfl rfl rfl) rfl rfl (pv_move (v := (.bool (dec (MakeOK (fvs xs0) s1)))) rfl rfl) ?_)
                        refine rw_cons (op_pv (w1y rfl rfl rfl rfl) rfl rfl (pv_neBs Try.underlying4 rfl rfl rfl) ?_)
                        refine rw_cons (op_pv (w0 rfl) rfl rfl (pv_pickF (v := (.bool false)) rfl rfl rfl) ?_)
                        refine rw_nil (hK272 _ _ ?_)
                        refine hK270 _ _ ?_
                        refine cw_cond rfl (fun h282 => ?_) (fun h282 => ?_)
                        · -- then
                          cases h282
                        · -- else
                          clear h282
                          refine cw_skip ?_
                          refine hK268 _ _ ?_
                          refine cw_seq fun K283 hK284 => ?_
                          refine cw_region fun K285 hK286 => ?_
                          refine rw_cons (op_pv (w0 rfl) rfl rfl (pv_assign (v := (.int .i64 1)) rfl rfl) ?_)
                          refine rw_nil (hK286 _ _ ?_)
                          refine hK284 _ _ ?_
                          refine cw_seq fun K287 hK288 => ?_
                          refine cw_region fun K289 hK290 => ?_
                          refine rw_cons (op_pv (w0 rfl) rfl rfl (pv_move (v := (.slice A94 hs96.length c95)) rfl rfl) ?_)
                          refine rw_cons (op_pv (w0 rfl) rfl rfl (pv_move (v := (.int .i64 1)) rfl rfl) ?_)
                          refine rw_cons (op_call (w0 rfl) rfl rfl (rc_call C26 rfl rfl) (heldFileS_ok _ hs96.length _ ys198 1 _ (hO97.rs (fun _ => rfl)) (hDO98.any (by omega)) (Shape.nok hsh199 hZm204.nok) hmk200 (by omega) (by omega) (by omega)) ?_)
                          rintro _ w291 ⟨rfl, hch292⟩
                          rw [offs_same (hs := hs96) (ys := ys198) (fun k => (hsh199.2 k).2.1)]
                          have hsz293 := hch292.size
                          replace hR0 := hR0.ch0 hch292
                          replace hD0 := hD0.ch0 hch292
                          replace hO49 := hO49.ch0 hch292
                          replace hDO50 := hDO50.ch0 hch292
                          replace hO62 := hO62.ch0 hch292
                          replace hDO63 := hDO63.ch0 hch292
                          replace hO80 := hO80.ch0 hch292
                          replace hDO81 := hDO81.ch0 hch292
                          replace hO97 := hO97.ch0 hch292
                          replace hDO98 := hDO98.ch0 hch292
                          replace hO133 := hO133.ch0 hch292
                          replace hDO134 := hDO134.ch0 hch292
                          replace hO245 := hO245.ch0 hch292
                          replace hDO246 := hDO246.ch0 hch292
                          replace hO258 := hO258.ch0 hch292
                          replace hDO259 := hDO259.ch0 hch292
                          replace hc := hc.step0 hch292
                          refine rw_cons (op_pv (w0 rfl) rfl rfl (pv_assign (v := (.int .i64 (1 + ((offs hs96 hs96.length : Nat) : Int)))) rfl rfl) ?_)
                          refine rw_nil (hK290 _ _ ?_)
                          refine hK288 _ _ ?_
                          refine cw_seq fun K294 hK295 => ?_
                          refine cw_seq fun K296 hK297 => ?_
                          refine cw_region fun K298 hK299 => ?_
                          refine rw_cons (op_pv (w0 rfl) rfl rfl (pv_move (v := (.int .i64 (1 + ((offs hs96 hs96.length : Nat) : Int)))) rfl rfl) ?_)
                          refine rw_cons (op_pv (w0 rfl) rfl rfl (pv_lss rfl rfl rfl) ?_)
                          refine rw_nil (hK299 _ _ ?_)
                          refine hK297 _ _ ?_
                          refine cw_cond rfl (fun h300 => ?_) (fun h300 => ?_)
                          · -- then
                            replace h300 := of_decide_eq_true h300
                            refine cw_seq fun K301 hK302 => ?_
                            refine cw_region fun K303 hK304 => ?_
                            refine rw_cons (op_pv (w0 rfl) rfl rfl (pv_assign (v := (.bool false)) rfl rfl) ?_)
                            refine rw_nil (hK304 _ _ ?_)
                            refine hK302 _ _ ?_
                            refine cw_ret ?_
                            refine fin1 rfl ?_
                            first
                              | exact ⟨rfl, hc⟩
                              | (exfalso; omega)
                              | exact absurd rfl (by assumption)
                              | exact absurd (by simp only [*]) (by assumption)
                          · -- else
                            replace h300 := of_decide_eq_false h300
                            refine cw_skip ?_
                            refine hK295 _ _ ?_
                            refine cw_seq fun K305 hK306 => ?_
                            refine cw_seq fun K307 hK308 => ?_
                            refine cw_region fun K309 hK310 => ?_
                            refine rw_cons (op_pv (w0 rfl) rfl rfl (pv_move (v := (.int .i64 (1 + ((offs hs96 hs96.length : Nat) : Int)))) rfl rfl) ?_)
                            refine rw_cons (op_pv (w0 rfl) rfl rfl (pv_move (v := (.int .i64 (1 + ((offs hs96 hs96.length : Nat) : Int)))) rfl rfl) ?_)
                            refine rw_cons (op_pv (w0 rfl) rfl rfl (pv_nes rfl rfl rfl) ?_)
                            refine rw_nil (hK310 _ _ ?_)
                            refine hK308 _ _ ?_
                            refine cw_cond rfl (fun h311 => ?_) (fun h311 => ?_)
                            · -- then
                              cases h311
                            · -- else
                              clear h311
                              refine cw_skip ?_
                              refine hK306 _ _ ?_
                              refine cw_seq fun K312 hK313 => ?_
                              refine cw_region fun K314 hK315 => ?_
                              refine rw_cons (op_pv (w0 rfl) rfl rfl (pv_assign (v := (.bool true)) rfl rfl) ?_)
                              refine rw_nil (hK315 _ _ ?_)
                              refine hK313 _ _ ?_
                              refine cw_ret ?_
                              refine fin1 rfl ?_
                              first
                                | exact ⟨rfl, hc⟩
                                | (exfalso; omega)
                                | exact absurd rfl (by assumption)
                                | exact absurd (by simp only [*]) (by assumption)
end Go.Proofs.Ythgnlljpjpklpaa

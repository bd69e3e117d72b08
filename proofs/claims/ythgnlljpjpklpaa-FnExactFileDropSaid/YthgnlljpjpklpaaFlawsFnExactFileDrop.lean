/-
  The walk of laws.FnExactFileDrop, written by program: each line names the law of one operation. Conditions: those of the theorem.
-/
import Derived.Test.YthgnlljpjpklpaaProg
import Derived.Test.YthgnlljpjpklpaaDeep
import Derived.Test.YthgnlljpjpklpaaFlawsszFileS
import Derived.Test.YthgnlljpjpklpaaFlawstoFileS
import Derived.Test.YthgnlljpjpklpaaFlawseqFileS
import Derived.Test.YthgnlljpjpklpaaMark
import Derived.Test.YthgnlljpjpklpaaFlawsmarkFileS
import Derived.Test.YthgnlljpjpklpaaFlawsheldFileS
import Derived.Test.YthgnlljpjpklpaaFlawseqIntS
import Derived.Test.YthgnlljpjpklpaaFlawsmarkIntS
import Derived.Test.YthgnlljpjpklpaaFlawsheldIntS
import Derived.Test.YthgnlljpjpklpaaFimplFileDrop
import Derived.Test.YthgnlljpjpklpaaFspecFileDrop
import Derived.KernelRfl
namespace Go.Proofs.Ythgnlljpjpklpaa
open Go Go.RowKit
set_option linter.unusedVariables false
set_option linter.unusedSimpArgs false
namespace FnExactFileDrop_okF
theorem C18 : Callable Try.prog 18 := ⟨_, Try.func18, by kernel_rfl, by kernel_rfl⟩
theorem C19 : Callable Try.prog 19 := ⟨_, Try.func19, by kernel_rfl, by kernel_rfl⟩
theorem C20 : Callable Try.prog 20 := ⟨_, Try.func20, by kernel_rfl, by kernel_rfl⟩
theorem C21 : Callable Try.prog 21 := ⟨_, Try.func21, by kernel_rfl, by kernel_rfl⟩
theorem C22 : Callable Try.prog 22 := ⟨_, Try.func22, by kernel_rfl, by kernel_rfl⟩
theorem C23 : Callable Try.prog 23 := ⟨_, Try.func23, by kernel_rfl, by kernel_rfl⟩
theorem C24 : Callable Try.prog 24 := ⟨_, Try.func24, by kernel_rfl, by kernel_rfl⟩
theorem C25 : Callable Try.prog 25 := ⟨_, Try.func25, by kernel_rfl, by kernel_rfl⟩
theorem C26 : Callable Try.prog 26 := ⟨_, Try.func26, by kernel_rfl, by kernel_rfl⟩
theorem C27 : Callable Try.prog 27 := ⟨_, Try.func27, by kernel_rfl, by kernel_rfl⟩
end FnExactFileDrop_okF
open FnExactFileDrop_okF in
set_option maxHeartbeats 4000000 in
theorem FnExactFileDrop_ok (A0 : Option Addr) (n0 c0 : Nat) (xs0 : List Fl) (s1 : ByteArray) (w : World) (hR0 : RS encF 2 w w.heap.size A0 n0 xs0) (hn0 : n0 ≤ c0) (hm0 : c0 ≤ maxLen) (hD0 : DX 0 w.heap.size [] w xs0) (hz0 : ∀ k, k < xs0.length → (el xs0 k).nm.size ≤ maxLen ∧ (el xs0 k).n ≤ maxLen) (hs1 : s1.size ≤ maxLen) :
    Fn Try.prog 3 [(.slice A0 n0 c0), (.string s1)] w fun v w' => v = .bool true ∧ Ch [] w w' := by
  have hlen0 := hR0.len
  unfold maxLen at *
  refine fn_of (n := 141) Try.func3 rfl rfl rfl rfl ?_
  have hc : Ch [] w w := Ch.refl _ _
  refine cw_seq fun K1 hK2 => ?_
  refine cw_region fun K3 hK4 => ?_
  refine rw_cons (op_pv (w0 rfl) rfl rfl (pv_assign (v := (.bool false)) rfl rfl) ?_)
  refine rw_nil (hK4 _ _ ?_)
  refine hK2 _ _ ?_
  refine cw_seq fun K5 hK6 => ?_
  refine cw_seq fun K7 hK8 => ?_
  refine cw_region fun K9 hK10 => ?_
  refine rw_cons (op_pv (w0 rfl) rfl rfl (pv_move (v := (.string s1)) rfl rfl) ?_)
  refine rw_cons (op_pv (w0 rfl) rfl rfl (pv_lenS Try.underlying9 rfl rfl) ?_)
  refine rw_cons (op_pv (w0 rfl) rfl rfl (pv_gtr rfl rfl rfl) ?_)
  refine rw_nil (hK10 _ _ ?_)
  refine hK8 _ _ ?_
  refine cw_cond rfl (fun h11 => ?_) (fun h11 => ?_)
  · -- then
    replace h11 := of_decide_eq_true h11
    refine cw_seq fun K12 hK13 => ?_
    refine cw_region fun K14 hK15 => ?_
    refine rw_cons (op_pv (w0 rfl) rfl rfl (pv_assign (v := (.bool true)) rfl rfl) ?_)
    refine rw_nil (hK15 _ _ ?_)
    refine hK13 _ _ ?_
    refine cw_ret ?_
    refine fin1 rfl ?_
    first
      | exact ⟨rfl, hc⟩
      | (exfalso; omega)
      | exact absurd rfl (by assumption)
      | exact absurd (by simp only [*]) (by assumption)
  · -- else
    replace h11 := of_decide_eq_false h11
    refine cw_skip ?_
    refine hK6 _ _ ?_
    refine cw_seq fun K16 hK17 => ?_
    refine cw_region fun K18 hK19 => ?_
    refine rw_cons (op_pv (w0 rfl) rfl rfl (pv_assign (v := (.int .i64 1048576)) rfl rfl) ?_)
    refine rw_nil (hK19 _ _ ?_)
    refine hK17 _ _ ?_
    refine cw_seq fun K20 hK21 => ?_
    refine cw_region fun K22 hK23 => ?_
    refine rw_cons (op_pv (w0 rfl) rfl rfl (pv_move (v := (.slice A0 n0 c0)) rfl rfl) ?_)
    refine rw_cons (op_pv (w0 rfl) rfl rfl (pv_move (v := (.int .i64 1048576)) rfl rfl) ?_)
    refine rw_cons (op_call (w0 rfl) rfl rfl (rc_call C18 rfl rfl) (szFileS_ok _ n0 _ xs0 1048576 _ (hR0.more (by omega)) (hD0.any (by omega)) (by omega) (by omega) (by assumption)) ?_)
    rintro _ w24 ⟨r25, rfl, hr26, hch27⟩
    have hsz28 := hch27.size
    replace hR0 := hR0.ch0 hch27
    replace hD0 := hD0.ch0 hch27
    replace hc := hc.step0 hch27
    refine rw_cons (op_pv (w0 rfl) rfl rfl (pv_assign (v := (.int .i64 r25)) rfl rfl) ?_)
    refine rw_nil (hK23 _ _ ?_)
    refine hK21 _ _ ?_
    refine cw_seq fun K29 hK30 => ?_
    refine cw_seq fun K31 hK32 => ?_
    refine cw_region fun K33 hK34 => ?_
    refine rw_cons (op_pv (w0 rfl) rfl rfl (pv_move (v := (.int .i64 r25)) rfl rfl) ?_)
    refine rw_cons (op_pv (w0 rfl) rfl rfl (pv_lss rfl rfl rfl) ?_)
    refine rw_nil (hK34 _ _ ?_)
    refine hK32 _ _ ?_
    refine cw_cond rfl (fun h35 => ?_) (fun h35 => ?_)
    · -- then
      replace h35 := of_decide_eq_true h35
      refine cw_seq fun K36 hK37 => ?_
      refine cw_region fun K38 hK39 => ?_
      refine rw_cons (op_pv (w0 rfl) rfl rfl (pv_assign (v := (.bool true)) rfl rfl) ?_)
      refine rw_nil (hK39 _ _ ?_)
      refine hK37 _ _ ?_
      refine cw_ret ?_
      refine fin1 rfl ?_
      first
        | exact ⟨rfl, hc⟩
        | (exfalso; omega)
        | exact absurd rfl (by assumption)
        | exact absurd (by simp only [*]) (by assumption)
    · -- else
      replace h35 := of_decide_eq_false h35
      refine cw_skip ?_
      refine hK30 _ _ ?_
      refine cw_seq fun K40 hK41 => ?_
      have hZsz : SzOK xs0 := by rcases hr26 with h9 | h9 <;> first | omega | exact h9.2.2
      have hn20 : n0 ≤ 1048576 := by omega
      refine cw_region fun K42 hK43 => ?_
      refine rw_cons (op_pv (w0 rfl) rfl rfl (pv_move (v := (.slice A0 n0 c0)) rfl rfl) ?_)
      refine rw_cons (op_call (w0 rfl) rfl rfl (rc_call C20 rfl rfl) (toFileS_ok _ n0 _ xs0 _ (hR0.more (by omega)) (hD0.any (by omega)) (by first | assumption | omega) (by omega)) ?_)
      rintro _ w44 ⟨A46, c47, hs48, rfl, hO49, hDO50, hfe51, hZ52, hch45⟩
      have hsz53 := hch45.size
      replace hR0 := hR0.ch0 hch45
      replace hD0 := hD0.ch0 hch45
      replace hc := hc.step0 hch45
      have hub54 := hO49.lt
      have hcap55 : hs48.length ≤ c47 := by obtain ⟨_, _, hv, h1, _⟩ := hO49.form; injection hv with _ _ h3; omega
      have hfl56 : hs48.length = (fvs xs0).length := by rw [← hfe51, fvs_len]
      try rw [fvs_len] at hfl56
      refine rw_cons (op_pv (w0 rfl) rfl rfl (pv_move (v := (.string s1)) rfl rfl) ?_)
      refine rw_cons (op_call (w0 rfl) rfl rfl (rc_call C19 rfl rfl) (FileDrop_s _ hs48.length _ hs48 s1 _ (hO49.rs (fun _ => rfl)) (hDO50.any (by omega)) (by first | assumption | exact SzOK.nil) (by omega) (by omega)) ?_)
      rintro _ w57 ⟨A59, c60, hs61, A66, c68, n67, rfl, hO62, hDO63, hfe64, hZ65, hR69, hch58⟩
      try rw [hfe51]
      try rw [hfe51] at hfe64
      try rw [hfe51] at hR69
      have hsz70 := hch58.size
      replace hR0 := hR0.ch0 hch58
      replace hD0 := hD0.ch0 hch58
      replace hO49 := hO49.ch0 hch58
      replace hDO50 := hDO50.ch0 hch58
      replace hc := hc.step0 hch58
      have hub71 := hO62.lt
      have hcap72 : hs61.length ≤ c60 := by obtain ⟨_, _, hv, h1, _⟩ := hO62.form; injection hv with _ _ h3; omega
      have hfl73 : hs61.length = (dropV (fvs xs0) s1).length := by rw [← hfe64, fvs_len]
      try simp only [fvs_len, List.length_take, List.length_drop] at hfl73
      have hln74 := hR69.len
      have hnt75 := dropV_le (fvs xs0) s1
      have hnt76 := dropP_le (fvs xs0) s1
      refine rw_cons (op_pv (w0 rfl) rfl rfl (pv_move (v := (.tuple #[(.slice A59 hs61.length c60), (.slice A66 n67 c68), (.bool (dec (DropOK (fvs xs0) s1)))])) rfl rfl) ?_)
      refine rw_cons (op_pv (w0 rfl) rfl rfl (pv_ext (v := (.slice A59 hs61.length c60)) rfl rfl rfl) ?_)
      refine rw_cons (op_pv (w0 rfl) rfl rfl (pv_ext (v := (.slice A66 n67 c68)) rfl rfl rfl) ?_)
      refine rw_cons (op_pv (w0 rfl) rfl rfl (pv_ext (v := (.bool (dec (DropOK (fvs xs0) s1)))) rfl rfl rfl) ?_)
      refine rw_cons (op_pv (w0 rfl) rfl rfl (pv_assign (v := (.slice A59 hs61.length c60)) rfl rfl) ?_)
      refine rw_cons (op_pv (w0 rfl) rfl rfl (pv_assign (v := (.slice A66 n67 c68)) rfl rfl) ?_)
      refine rw_cons (op_pv (w0 rfl) rfl rfl (pv_assign (v := (.bool (dec (DropOK (fvs xs0) s1)))) rfl rfl) ?_)
      refine rw_nil (hK43 _ _ ?_)
      refine hK41 _ _ ?_
      refine cw_seq fun K77 hK78 => ?_
      refine cw_region fun K79 hK80 => ?_
      refine rw_cons (op_pv (w0 rfl) rfl rfl (pv_move (v := (.slice A0 n0 c0)) rfl rfl) ?_)
      refine rw_cons (op_call (w0 rfl) rfl rfl (rc_call C20 rfl rfl) (toFileS_ok _ n0 _ xs0 _ (hR0.more (by omega)) (hD0.any (by omega)) (by first | assumption | omega) (by omega)) ?_)
      rintro _ w81 ⟨A83, c84, hs85, rfl, hO86, hDO87, hfe88, hZ89, hch82⟩
      have hsz90 := hch82.size
      replace hR0 := hR0.ch0 hch82
      replace hD0 := hD0.ch0 hch82
      replace hO49 := hO49.ch0 hch82
      replace hDO50 := hDO50.ch0 hch82
      replace hO62 := hO62.ch0 hch82
      replace hDO63 := hDO63.ch0 hch82
      replace hR69 := hR69.ch0 hch82
      replace hc := hc.step0 hch82
      have hub91 := hO86.lt
      have hcap92 : hs85.length ≤ c84 := by obtain ⟨_, _, hv, h1, _⟩ := hO86.form; injection hv with _ _ h3; omega
      have hfl93 : hs85.length = (fvs xs0).length := by rw [← hfe88, fvs_len]
      try rw [fvs_len] at hfl93
      refine rw_cons (op_pv (w0 rfl) rfl rfl (pv_assign (v := (.slice A83 hs85.length c84)) rfl rfl) ?_)
      refine rw_nil (hK80 _ _ ?_)
      refine hK78 _ _ ?_
      refine cw_seq fun K94 hK95 => ?_
      refine cw_region fun K96 hK97 => ?_
      refine rw_cons (op_pv (w0 rfl) rfl rfl (pv_move (v := (.slice A83 hs85.length c84)) rfl rfl) ?_)
      refine rw_cons (op_pv (w0 rfl) rfl rfl (pv_move (v := (.string s1)) rfl rfl) ?_)
      refine rw_cons (op_call (w0 rfl) rfl rfl (rc_call C21 rfl rfl) (FileDrop_i _ hs85.length _ hs85 s1 _ (hO86.rs (fun _ => rfl)) (hDO87.any (by omega)) (by first | assumption | exact SzOK.nil) (by omega) (by omega)) ?_)
      rintro _ w98 ⟨A103, c104, hs105, A100, c101, rfl, hO102, hO106, hDO107, hfe108, hZ109, ⟨B0_110, hB1111, hB2112, hBo113, hDOs114, hOs115⟩, hch99⟩
      try rw [hfe88]
      try rw [hfe88] at hO102
      try rw [hfe88] at hfe108
      try rw [hfe88] at hOs115
      have hsz116 := hch99.size
      replace hR0 := hR0.ch0 hch99
      replace hD0 := hD0.ch0 hch99
      replace hO49 := hO49.ch0 hch99
      replace hDO50 := hDO50.ch0 hch99
      replace hO62 := hO62.ch0 hch99
      replace hDO63 := hDO63.ch0 hch99
      replace hR69 := hR69.ch0 hch99
      replace hO86 := hO86.ch0 hch99
      replace hDO87 := hDO87.ch0 hch99
      replace hc := hc.step0 hch99
      have hub117 := hO106.lt
      have hcap118 : hs105.length ≤ c104 := by obtain ⟨_, _, hv, h1, _⟩ := hO106.form; injection hv with _ _ h3; omega
      have hfl119 : hs105.length = (dropV (fvs xs0) s1).length := by rw [← hfe108, fvs_len]
      try simp only [fvs_len, List.length_take, List.length_drop] at hfl119
      have hub120 := hO102.lt
      have hcap121 : (dropP (fvs xs0) s1).length ≤ c101 := by obtain ⟨_, _, hv, h1, _⟩ := hO102.form; injection hv with _ _ h3; omega
      replace hDO107 := hDOs114; replace hO102 := hOs115
      have hnt122 := dropV_le (fvs xs0) s1
      have hnt123 := dropP_le (fvs xs0) s1
      refine rw_cons (op_pv (w0 rfl) rfl rfl (pv_move (v := (.tuple #[(.slice A103 hs105.length c104), (.slice A100 (dropP (fvs xs0) s1).length c101), (.bool (dec (DropOK (fvs xs0) s1)))])) rfl rfl) ?_)
      refine rw_cons (op_pv (w0 rfl) rfl rfl (pv_ext (v := (.slice A103 hs105.length c104)) rfl rfl rfl) ?_)
      refine rw_cons (op_pv (w0 rfl) rfl rfl (pv_ext (v := (.slice A100 (dropP (fvs xs0) s1).length c101)) rfl rfl rfl) ?_)
      refine rw_cons (op_pv (w0 rfl) rfl rfl (pv_ext (v := (.bool (dec (DropOK (fvs xs0) s1)))) rfl rfl rfl) ?_)
      refine rw_cons (op_pv (w0 rfl) rfl rfl (pv_assign (v := (.slice A103 hs105.length c104)) rfl rfl) ?_)
      refine rw_cons (op_pv (w0 rfl) rfl rfl (pv_assign (v := (.slice A100 (dropP (fvs xs0) s1).length c101)) rfl rfl) ?_)
      refine rw_cons (op_pv (w0 rfl) rfl rfl (pv_assign (v := (.bool (dec (DropOK (fvs xs0) s1)))) rfl rfl) ?_)
      refine rw_nil (hK97 _ _ ?_)
      refine hK95 _ _ ?_
      refine cw_seq fun K124 hK125 => ?_
      refine cw_seq fun K126 hK127 => ?_
      refine cw_region fun K128 hK129 => ?_
      refine rw_cons (op_pv (w0 rfl) rfl rfl (pv_move (v := (.slice A103 hs105.length c104)) rfl rfl) ?_)
      refine rw_cons (op_pv (w0 rfl) rfl rfl (pv_move (v := (.slice A59 hs61.length c60)) rfl rfl) ?_)
      refine rw_cons (op_call (w0 rfl) rfl rfl (rc_call C22 rfl rfl) (eqFileS_ok _ hs105.length _ hs105 _ hs61.length _ hs61 _ (hO106.rs (fun _ => rfl)) (hDO107.any (by omega)) (by first | assumption | exact SzOK.nil) (by omega) (hO62.rs (fun _ => rfl)) (hDO63.any (by omega)) (by first | assumption | exact SzOK.nil) (by omega)) ?_)
      rintro _ w130 ⟨rfl, hch131⟩
      try rw [hfe108]
      try rw [hfe64]
      have hsz132 := hch131.size
      replace hR0 := hR0.ch0 hch131
      replace hD0 := hD0.ch0 hch131
      replace hO49 := hO49.ch0 hch131
      replace hDO50 := hDO50.ch0 hch131
      replace hO62 := hO62.ch0 hch131
      replace hDO63 := hDO63.ch0 hch131
      replace hR69 := hR69.ch0 hch131
      replace hO86 := hO86.ch0 hch131
      replace hDO87 := hDO87.ch0 hch131
      replace hO106 := hO106.ch0 hch131
      replace hDO107 := hDO107.ch0 hch131
      replace hO102 := hO102.ch0 hch131
      replace hc := hc.step0 hch131
      refine rw_cons (op_pv (w0 rfl) rfl rfl (pv_not rfl rfl) ?_)
      refine rw_cons (op_pv (w0 rfl) rfl rfl (pv_move (v := (.bool (!(dec (dropV (fvs xs0) s1 = dropV (fvs xs0) s1))))) rfl rfl) ?_)
      refine rw_split 48 rfl (fun hb133 => ?_) (fun hb133 => ?_)
      · -- yes
        replace hb133 := not_t hb133
        replace hb133 := dec_f hb133
        refine rw_cons (op_pass (w1n2 rfl rfl rfl rfl) rfl rfl ?_)
        refine rw_cons (op_pass (w1n2 rfl rfl rfl rfl) rfl rfl ?_)
        refine rw_cons (op_pass (w1n2 rfl rfl rfl rfl) rfl rfl ?_)
        refine rw_cons (op_pass (w1n2 rfl rfl rfl rfl) rfl rfl ?_)
        refine rw_cons (op_pv (w0 rfl) rfl rfl (pv_pickT (v := (.bool true)) rfl rfl rfl) ?_)
        refine rw_cons (op_pv (w0 rfl) rfl rfl (pv_move (v := (.bool true)) rfl rfl) ?_)
        refine rw_cons (op_pass (w1n2 rfl rfl rfl rfl) rfl rfl ?_)
        refine rw_cons (op_pass (w1n2 rfl rfl rfl rfl) rfl rfl ?_)
        refine rw_cons (op_pass (w1n2 rfl rfl rfl rfl) rfl rfl ?_)
        refine rw_cons (op_pv (w0 rfl) rfl rfl (pv_pickT (v := (.bool true)) rfl rfl rfl) ?_)
        refine rw_nil (hK129 _ _ ?_)
        refine hK127 _ _ ?_
        refine cw_cond rfl (fun h134 => ?_) (fun h134 => ?_)
        · -- then
          clear h134
          refine cw_seq fun K135 hK136 => ?_
          refine cw_region fun K137 hK138 => ?_
          refine rw_cons (op_pv (w0 rfl) rfl rfl (pv_assign (v := (.bool false)) rfl rfl) ?_)
          refine rw_nil (hK138 _ _ ?_)
          refine hK136 _ _ ?_
          refine cw_ret ?_
          refine fin1 rfl ?_
          first
            | exact ⟨rfl, hc⟩
            | (exfalso; omega)
            | exact absurd rfl (by assumption)
            | exact absurd (by simp only [*]) (by assumption)
        · -- else
          cases h134
      · -- no
        replace hb133 := not_f hb133
        replace hb133 := dec_t hb133
        refine rw_cons (op_pv (w1y rfl rfl rfl rfl) rfl rfl (pv_move (v := (.slice A100 (dropP (fvs xs0) s1).length c101)) rfl rfl) ?_)
        refine rw_cons (op_pv (w1y rfl rfl rfl rfl) rfl rfl (pv_move (v := (.slice A66 n67 c68)) rfl rfl) ?_)
        refine rw_cons (op_call (w1y rfl rfl rfl rfl) rfl rfl (rc_call C23 rfl rfl) (eqIntS_same _ _ _ _ _ _ (dropP (fvs xs0) s1) _ (hO102.rs (fun _ => rfl)) (hR69.more (by omega)) (by omega)) ?_)
        rintro _ w139 ⟨rfl, hch140⟩
        have hsz141 := hch140.size
        replace hR0 := hR0.ch0 hch140
        replace hD0 := hD0.ch0 hch140
        replace hO49 := hO49.ch0 hch140
        replace hDO50 := hDO50.ch0 hch140
        replace hO62 := hO62.ch0 hch140
        replace hDO63 := hDO63.ch0 hch140
        replace hR69 := hR69.ch0 hch140
        replace hO86 := hO86.ch0 hch140
        replace hDO87 := hDO87.ch0 hch140
        replace hO106 := hO106.ch0 hch140
        replace hDO107 := hDO107.ch0 hch140
        replace hO102 := hO102.ch0 hch140
        replace hc := hc.step0 hch140
        refine rw_cons (op_pv (w1y rfl rfl rfl rfl) rfl rfl (pv_not rfl rfl) ?_)
        refine rw_cons (op_pv (w0 rfl) rfl rfl (pv_pickF (v := (.bool (!true))) rfl rfl rfl) ?_)
        refine rw_cons (op_pv (w0 rfl) rfl rfl (pv_move (v := (.bool (!true))) rfl rfl) ?_)
        refine rw_cons (op_pv (w1y rfl rfl rfl rfl) rfl rfl (pv_move (v := (.bool (dec (DropOK (fvs xs0) s1)))) rfl rfl) ?_)
        refine rw_cons (op_pv (w1y rfl rfl rfl rfl) rfl rfl (pv_move (v := (.bool (dec (DropOK (fvs xs0) s1)))) rfl rfl) ?_)
        refine rw_cons (op_pv (w1y rfl rfl rfl rfl) rfl rfl (pv_neBs Try.underlying4 rfl rfl rfl) ?_)
        refine rw_cons (op_pv (w0 rfl) rfl rfl (pv_pickF (v := (.bool false)) rfl rfl rfl) ?_)
        refine rw_nil (hK129 _ _ ?_)
        refine hK127 _ _ ?_
        refine cw_cond rfl (fun h142 => ?_) (fun h142 => ?_)
        · -- then
          cases h142
        · -- else
          clear h142
          refine cw_skip ?_
          refine hK125 _ _ ?_
          refine cw_seq fun K143 hK144 => ?_
          refine cw_seq fun K145 hK146 => ?_
          refine cw_region fun K147 hK148 => ?_
          refine rw_cons (op_pv (w0 rfl) rfl rfl (pv_move (v := (.slice A83 hs85.length c84)) rfl rfl) ?_)
          refine rw_cons (op_pv (w0 rfl) rfl rfl (pv_move (v := (.slice A0 n0 c0)) rfl rfl) ?_)
          refine rw_cons (op_call (w0 rfl) rfl rfl (rc_call C20 rfl rfl) (toFileS_ok _ n0 _ xs0 _ (hR0.more (by omega)) (hD0.any (by omega)) (by first | assumption | omega) (by omega)) ?_)
          rintro _ w149 ⟨A151, c152, hs153, rfl, hO154, hDO155, hfe156, hZ157, hch150⟩
          have hsz158 := hch150.size
          replace hR0 := hR0.ch0 hch150
          replace hD0 := hD0.ch0 hch150
          replace hO49 := hO49.ch0 hch150
          replace hDO50 := hDO50.ch0 hch150
          replace hO62 := hO62.ch0 hch150
          replace hDO63 := hDO63.ch0 hch150
          replace hR69 := hR69.ch0 hch150
          replace hO86 := hO86.ch0 hch150
          replace hDO87 := hDO87.ch0 hch150
          replace hO106 := hO106.ch0 hch150
          replace hDO107 := hDO107.ch0 hch150
          replace hO102 := hO102.ch0 hch150
          replace hc := hc.step0 hch150
          have hub159 := hO154.lt
          have hcap160 : hs153.length ≤ c152 := by obtain ⟨_, _, hv, h1, _⟩ := hO154.form; injection hv with _ _ h3; omega
          have hfl161 : hs153.length = (fvs xs0).length := by rw [← hfe156, fvs_len]
          try rw [fvs_len] at hfl161
          refine rw_cons (op_call (w0 rfl) rfl rfl (rc_call C22 rfl rfl) (eqFileS_ok _ hs85.length _ hs85 _ hs153.length _ hs153 _ (hO86.rs (fun _ => rfl)) (hDO87.any (by omega)) (by first | assumption | exact SzOK.nil) (by omega) (hO154.rs (fun _ => rfl)) (hDO155.any (by omega)) (by first | assumption | exact SzOK.nil) (by omega)) ?_)
          rintro _ w162 ⟨rfl, hch163⟩
          try rw [hfe88]
          try rw [hfe156]
          have hsz164 := hch163.size
          replace hR0 := hR0.ch0 hch163
          replace hD0 := hD0.ch0 hch163
          replace hO49 := hO49.ch0 hch163
          replace hDO50 := hDO50.ch0 hch163
          replace hO62 := hO62.ch0 hch163
          replace hDO63 := hDO63.ch0 hch163
          replace hR69 := hR69.ch0 hch163
          replace hO86 := hO86.ch0 hch163
          replace hDO87 := hDO87.ch0 hch163
          replace hO106 := hO106.ch0 hch163
          replace hDO107 := hDO107.ch0 hch163
          replace hO102 := hO102.ch0 hch163
          replace hO154 := hO154.ch0 hch163
          replace hDO155 := hDO155.ch0 hch163
          replace hc := hc.step0 hch163
          refine rw_cons (op_pv (w0 rfl) rfl rfl (pv_not rfl rfl) ?_)
          refine rw_nil (hK148 _ _ ?_)
          refine hK146 _ _ ?_
          refine cw_cond rfl (fun h165 => ?_) (fun h165 => ?_)
          · -- then
            replace h165 := not_t h165
            replace h165 := dec_f h165
            refine cw_seq fun K166 hK167 => ?_
            refine cw_region fun K168 hK169 => ?_
            refine rw_cons (op_pv (w0 rfl) rfl rfl (pv_assign (v := (.bool false)) rfl rfl) ?_)
            refine rw_nil (hK169 _ _ ?_)
            refine hK167 _ _ ?_
            refine cw_ret ?_
            refine fin1 rfl ?_
            first
              | exact ⟨rfl, hc⟩
              | (exfalso; omega)
              | exact absurd rfl (by assumption)
              | exact absurd (by simp only [*]) (by assumption)
          · -- else
            replace h165 := not_f h165
            replace h165 := dec_t h165
            refine cw_skip ?_
            refine hK144 _ _ ?_
            refine cw_seq fun K170 hK171 => ?_
            refine cw_region fun K172 hK173 => ?_
            refine rw_cons (op_pv (w0 rfl) rfl rfl (pv_assign (v := (.int .i64 1)) rfl rfl) ?_)
            refine rw_nil (hK173 _ _ ?_)
            refine hK171 _ _ ?_
            refine cw_seq fun K174 hK175 => ?_
            refine cw_region fun K176 hK177 => ?_
            refine rw_cons (op_pv (w0 rfl) rfl rfl (pv_move (v := (.slice A83 hs85.length c84)) rfl rfl) ?_)
            refine rw_cons (op_pv (w0 rfl) rfl rfl (pv_move (v := (.int .i64 1)) rfl rfl) ?_)
            have hZm185 : SzOK hs85 := by assumption
            refine rw_cons (op_call (w0 rfl) rfl rfl (rc_call C24 rfl rfl) (markFileS_ok _ hs85.length _ w57.heap.size w81.heap.size hs85 1 _ hO86 hDO87 hZm185 (fun s h => Nat.lt_of_lt_of_le (hub91 s h) (by omega)) (by omega) (by omega) (by omega) (by omega) (by omega)) ?_)
            rintro _ w178 ⟨ys179, rfl, hsh180, hmk181, hO182, hDO183, hch184⟩
            have hsz186 := hch184.size
            replace hR0 := hR0.ch hch184 (fun s hs => by have := range_lim hs; omega)
            replace hD0 := hD0.ch hch184 (fun s hs => by have h9 := range_lim hs; first | (left; omega) | (right; right; omega))
            replace hO49 := hO49.ch hch184 (fun s hs hs2 => by have h9 := range_lim hs2; first | (have := hub54 s hs; omega) | (have := hO49.off s hs; omega))
            replace hDO50 := hDO50.ch hch184 (fun s hs => by have h9 := range_lim hs; first | (left; omega) | (right; right; omega))
            replace hO62 := hO62.ch hch184 (fun s hs hs2 => by have h9 := range_lim hs2; first | (have := hub71 s hs; omega) | (have := hO62.off s hs; omega))
            replace hDO63 := hDO63.ch hch184 (fun s hs => by have h9 := range_lim hs; first | (left; omega) | (right; right; omega))
            replace hR69 := hR69.ch hch184 (fun s hs => by have := range_lim hs; omega)
            replace hO106 := hO106.ch hch184 (fun s hs hs2 => by have h9 := range_lim hs2; first | (have := hBo113 s hs; omega) | (have := hO106.off s hs; omega))
            replace hDO107 := hDO107.ch hch184 (fun s hs => by have h9 := range_lim hs; first | (left; omega) | (right; right; omega))
            replace hO102 := hO102.ch hch184 (fun s hs hs2 => by have h9 := range_lim hs2; first | (have := hub120 s hs; omega) | (have := hO102.off s hs; omega))
            replace hO154 := hO154.ch hch184 (fun s hs hs2 => by have h9 := range_lim hs2; first | (have := hub159 s hs; omega) | (have := hO154.off s hs; omega))
            replace hDO155 := hDO155.ch hch184 (fun s hs => by have h9 := range_lim hs; first | (left; omega) | (right; right; omega))
            replace hc := hc.step hch184 (fun s hs => by right; have := range_lim hs; omega)
            clear hO86 hDO87; have hO86 := hO182; have hDO87 := hDO183; clear hO182 hDO183
            have hob187 := offs_bd hZm185.nok hs85.length (by omega)
            refine rw_cons (op_pv (w0 rfl) rfl rfl (pv_assign (v := (.int .i64 (1 + ((offs hs85 hs85.length : Nat) : Int)))) rfl rfl) ?_)
            refine rw_nil (hK177 _ _ ?_)
            refine hK175 _ _ ?_
            refine cw_seq fun K188 hK189 => ?_
            refine cw_seq fun K190 hK191 => ?_
            refine cw_region fun K192 hK193 => ?_
            refine rw_cons (op_pv (w0 rfl) rfl rfl (pv_move (v := (.int .i64 (1 + ((offs hs85 hs85.length : Nat) : Int)))) rfl rfl) ?_)
            refine rw_cons (op_pv (w0 rfl) rfl rfl (pv_lss rfl rfl rfl) ?_)
            refine rw_cons (op_pv (w0 rfl) rfl rfl (pv_move (v := (.bool (decide ((1 + ((offs hs85 hs85.length : Nat) : Int)) < 0)))) rfl rfl) ?_)
            refine rw_split 69 rfl (fun hb194 => ?_) (fun hb194 => ?_)
            · -- yes
              replace hb194 := of_decide_eq_true hb194
              refine rw_cons (op_pass (w1n2 rfl rfl rfl rfl) rfl rfl ?_)
              refine rw_cons (op_pass (w1n2 rfl rfl rfl rfl) rfl rfl ?_)
              refine rw_cons (op_pass (w1n2 rfl rfl rfl rfl) rfl rfl ?_)
              refine rw_cons (op_pass (w1n2 rfl rfl rfl rfl) rfl rfl ?_)
              refine rw_cons (op_pv (w0 rfl) rfl rfl (pv_pickT (v := (.bool true)) rfl rfl rfl) ?_)
              refine rw_cons (op_pv (w0 rfl) rfl rfl (pv_move (v := (.bool true)) rfl rfl) ?_)
              refine rw_cons (op_pass (w1n2 rfl rfl rfl rfl) rfl rfl ?_)
              refine rw_cons (op_pass (w1n2 rfl rfl rfl rfl) rfl rfl ?_)
              refine rw_cons (op_pass (w1n2 rfl rfl rfl rfl) rfl rfl ?_)
              refine rw_cons (op_pass (w1n2 rfl rfl rfl rfl) rfl rfl ?_)
              refine rw_cons (op_pv (w0 rfl) rfl rfl (pv_pickT (v := (.bool true)) rfl rfl rfl) ?_)
              refine rw_cons (op_pv (w0 rfl) rfl rfl (pv_move (v := (.bool true)) rfl rfl) ?_)
              refine rw_cons (op_pass (w1n2 rfl rfl rfl rfl) rfl rfl ?_)
              refine rw_cons (op_pass (w1n2 rfl rfl rfl rfl) rfl rfl ?_)
              refine rw_cons (op_pass (w1n2 rfl rfl rfl rfl) rfl rfl ?_)
              refine rw_cons (op_pv (w0 rfl) rfl rfl (pv_pickT (v := (.bool true)) rfl rfl rfl) ?_)
              refine rw_nil (hK193 _ _ ?_)
              refine hK191 _ _ ?_
              refine cw_cond rfl (fun h195 => ?_) (fun h195 => ?_)
              · -- then
                clear h195
                refine cw_seq fun K196 hK197 => ?_
                refine cw_region fun K198 hK199 => ?_
                refine rw_cons (op_pv (w0 rfl) rfl rfl (pv_assign (v := (.bool false)) rfl rfl) ?_)
                refine rw_nil (hK199 _ _ ?_)
                refine hK197 _ _ ?_
                refine cw_ret ?_
                refine fin1 rfl ?_
                first
                  | exact ⟨rfl, hc⟩
                  | (exfalso; omega)
                  | exact absurd rfl (by assumption)
                  | exact absurd (by simp only [*]) (by assumption)
              · -- else
                cases h195
            · -- no
              replace hb194 := of_decide_eq_false hb194
              refine rw_cons (op_pv (w1y rfl rfl rfl rfl) rfl rfl (pv_move (v := (.slice A103 hs105.length c104)) rfl rfl) ?_)
              refine rw_cons (op_pv (w1y rfl rfl rfl rfl) rfl rfl (pv_move (v := (.slice A59 hs61.length c60)) rfl rfl) ?_)
              refine rw_cons (op_call (w1y rfl rfl rfl rfl) rfl rfl (rc_call C22 rfl rfl) (eqFileS_ok _ hs105.length _ hs105 _ hs61.length _ hs61 _ (hO106.rs (fun _ => rfl)) (hDO107.any (by omega)) (by first | assumption | exact SzOK.nil) (by omega) (hO62.rs (fun _ => rfl)) (hDO63.any (by omega)) (by first | assumption | exact SzOK.nil) (by omega)) ?_)
              rintro _ w200 ⟨rfl, hch201⟩
              try rw [hfe108]
              try rw [hfe64]
              have hsz202 := hch201.size
              replace hR0 := hR0.ch0 hch201
              replace hD0 := hD0.ch0 hch201
              replace hO49 := hO49.ch0 hch201
              replace hDO50 := hDO50.ch0 hch201
              replace hO62 := hO62.ch0 hch201
              replace hDO63 := hDO63.ch0 hch201
              replace hR69 := hR69.ch0 hch201
              replace hO86 := hO86.ch0 hch201
              replace hDO87 := hDO87.ch0 hch201
              replace hO106 := hO106.ch0 hch201
              replace hDO107 := hDO107.ch0 hch201
              replace hO102 := hO102.ch0 hch201
              replace hO154 := hO154.ch0 hch201
              replace hDO155 := hDO155.ch0 hch201
              replace hc := hc.step0 hch201
              refine rw_cons (op_pv (w1y rfl rfl rfl rfl) rfl rfl (pv_not rfl rfl) ?_)
              refine rw_cons (op_pv (w0 rfl) rfl rfl (pv_pickF (v := (.bool (!(dec (dropV (fvs xs0) s1 = dropV (fvs xs0) s1))))) rfl rfl rfl) ?_)
              refine rw_cons (op_pv (w0 rfl) rfl rfl (pv_move (v := (.bool (!(dec (dropV (fvs xs0) s1 = dropV (fvs xs0) s1))))) rfl rfl) ?_)
              refine rw_split 75 rfl (fun hb203 => ?_) (fun hb203 => ?_)
              · -- yes
                replace hb203 := not_t hb203
                replace hb203 := dec_f hb203
                refine rw_cons (op_pass (w1n2 rfl rfl rfl rfl) rfl rfl ?_)
                refine rw_cons (op_pass (w1n2 rfl rfl rfl rfl) rfl rfl ?_)
                refine rw_cons (op_pass (w1n2 rfl rfl rfl rfl) rfl rfl ?_)
                refine rw_cons (op_pass (w1n2 rfl rfl rfl rfl) rfl rfl ?_)
                refine rw_cons (op_pv (w0 rfl) rfl rfl (pv_pickT (v := (.bool true)) rfl rfl rfl) ?_)
                refine rw_cons (op_pv (w0 rfl) rfl rfl (pv_move (v := (.bool true)) rfl rfl) ?_)
                refine rw_cons (op_pass (w1n2 rfl rfl rfl rfl) rfl rfl ?_)
                refine rw_cons (op_pass (w1n2 rfl rfl rfl rfl) rfl rfl ?_)
                refine rw_cons (op_pass (w1n2 rfl rfl rfl rfl) rfl rfl ?_)
                refine rw_cons (op_pv (w0 rfl) rfl rfl (pv_pickT (v := (.bool true)) rfl rfl rfl) ?_)
                refine rw_nil (hK193 _ _ ?_)
                refine hK191 _ _ ?_
                refine cw_cond rfl (fun h204 => ?_) (fun h204 => ?_)
                · -- then
                  clear h204
                  refine cw_seq fun K205 hK206 => ?_
                  refine cw_region fun K207 hK208 => ?_
                  refine rw_cons (op_pv (w0 rfl) rfl rfl (pv_assign (v := (.bool false)) rfl rfl) ?_)
                  refine rw_nil (hK208 _ _ ?_)
                  refine hK206 _ _ ?_
                  refine cw_ret ?_
                  refine fin1 rfl ?_
                  first
                    | exact ⟨rfl, hc⟩
                    | (exfalso; omega)
                    | exact absurd rfl (by assumption)
                    | exact absurd (by simp only [*]) (by assumption)
                · -- else
                  cases h204
              · -- no
                replace hb203 := not_f hb203
                replace hb203 := dec_t hb203
                refine rw_cons (op_pv (w1y rfl rfl rfl rfl) rfl rfl (pv_move (v := (.slice A100 (dropP (fvs xs0) s1).length c101)) rfl rfl) ?_)
                refine rw_cons (op_pv (w1y rfl rfl rfl rfl) rfl rfl (pv_move (v := (.slice A66 n67 c68)) rfl rfl) ?_)
                refine rw_cons (op_call (w1y rfl rfl rfl rfl) rfl rfl (rc_call C23 rfl rfl) (eqIntS_same _ _ _ _ _ _ (dropP (fvs xs0) s1) _ (hO102.rs (fun _ => rfl)) (hR69.more (by omega)) (by omega)) ?_)
                rintro _ w209 ⟨rfl, hch210⟩
                have hsz211 := hch210.size
                replace hR0 := hR0.ch0 hch210
                replace hD0 := hD0.ch0 hch210
                replace hO49 := hO49.ch0 hch210
                replace hDO50 := hDO50.ch0 hch210
                replace hO62 := hO62.ch0 hch210
                replace hDO63 := hDO63.ch0 hch210
                replace hR69 := hR69.ch0 hch210
                replace hO86 := hO86.ch0 hch210
                replace hDO87 := hDO87.ch0 hch210
                replace hO106 := hO106.ch0 hch210
                replace hDO107 := hDO107.ch0 hch210
                replace hO102 := hO102.ch0 hch210
                replace hO154 := hO154.ch0 hch210
                replace hDO155 := hDO155.ch0 hch210
                replace hc := hc.step0 hch210
                refine rw_cons (op_pv (w1y rfl rfl rfl rfl) rfl rfl (pv_not rfl rfl) ?_)
                refine rw_cons (op_pv (w0 rfl) rfl rfl (pv_pickF (v := (.bool (!true))) rfl rfl rfl) ?_)
                refine rw_cons (op_pv (w0 rfl) rfl rfl (pv_move (v := (.bool (!true))) rfl rfl) ?_)
                refine rw_cons (op_pv (w1y rfl rfl rfl rfl) rfl rfl (pv_move (v := (.bool (dec (DropOK (fvs xs0) s1)))) rfl rfl) ?_)
                refine rw_cons (op_pv (w1y rfl rfl rfl rfl) rfl rfl (pv_move (v := (.bool (dec (DropOK (fvs xs0) s1)))) rfl rfl) ?_)
                refine rw_cons (op_pv (w1y rfl rfl rfl rfl) rfl rfl (pv_neBs Try.underlying4 rfl rfl rfl) ?_)
                refine rw_cons (op_pv (w0 rfl) rfl rfl (pv_pickF (v := (.bool false)) rfl rfl rfl) ?_)
                refine rw_nil (hK193 _ _ ?_)
                refine hK191 _ _ ?_
                refine cw_cond rfl (fun h212 => ?_) (fun h212 => ?_)
                · -- then
                  cases h212
                · -- else
                  clear h212
                  refine cw_skip ?_
                  refine hK189 _ _ ?_
                  refine cw_seq fun K213 hK214 => ?_
                  refine cw_region fun K215 hK216 => ?_
                  refine rw_cons (op_pv (w0 rfl) rfl rfl (pv_assign (v := (.int .i64 1)) rfl rfl) ?_)
                  refine rw_nil (hK216 _ _ ?_)
                  refine hK214 _ _ ?_
                  refine cw_seq fun K217 hK218 => ?_
                  refine cw_region fun K219 hK220 => ?_
                  refine rw_cons (op_pv (w0 rfl) rfl rfl (pv_move (v := (.slice A103 hs105.length c104)) rfl rfl) ?_)
                  refine rw_cons (op_pv (w0 rfl) rfl rfl (pv_move (v := (.int .i64 1)) rfl rfl) ?_)
                  have hZm228 : SzOK hs105 := by assumption
                  refine rw_cons (op_call (w0 rfl) rfl rfl (rc_call C24 rfl rfl) (markFileS_ok _ hs105.length _ w81.heap.size B0_110 hs105 1 _ hO106 hDO107 hZm228 (fun s h => Nat.lt_of_lt_of_le (hBo113 s h) (by omega)) (by omega) (by omega) (by omega) (by omega) (by omega)) ?_)
                  rintro _ w221 ⟨ys222, rfl, hsh223, hmk224, hO225, hDO226, hch227⟩
                  have hsz229 := hch227.size
                  replace hR0 := hR0.ch hch227 (fun s hs => by have := range_lim hs; omega)
                  replace hD0 := hD0.ch hch227 (fun s hs => by have h9 := range_lim hs; first | (left; omega) | (right; right; omega))
                  replace hO49 := hO49.ch hch227 (fun s hs hs2 => by have h9 := range_lim hs2; first | (have := hub54 s hs; omega) | (have := hO49.off s hs; omega))
                  replace hDO50 := hDO50.ch hch227 (fun s hs => by have h9 := range_lim hs; first | (left; omega) | (right; right; omega))
                  replace hO62 := hO62.ch hch227 (fun s hs hs2 => by have h9 := range_lim hs2; first | (have := hub71 s hs; omega) | (have := hO62.off s hs; omega))
                  replace hDO63 := hDO63.ch hch227 (fun s hs => by have h9 := range_lim hs; first | (left; omega) | (right; right; omega))
                  replace hR69 := hR69.ch hch227 (fun s hs => by have := range_lim hs; omega)
                  replace hO86 := hO86.ch hch227 (fun s hs hs2 => by have h9 := range_lim hs2; first | (have := hub91 s hs; omega) | (have := hO86.off s hs; omega))
                  replace hDO87 := hDO87.ch hch227 (fun s hs => by have h9 := range_lim hs; first | (left; omega) | (right; right; omega))
                  replace hO102 := hO102.ch hch227 (fun s hs hs2 => by have h9 := range_lim hs2; first | (have := hub120 s hs; omega) | (have := hO102.off s hs; omega))
                  replace hO154 := hO154.ch hch227 (fun s hs hs2 => by have h9 := range_lim hs2; first | (have := hub159 s hs; omega) | (have := hO154.off s hs; omega))
                  replace hDO155 := hDO155.ch hch227 (fun s hs => by have h9 := range_lim hs; first | (left; omega) | (right; right; omega))
                  replace hc := hc.step hch227 (fun s hs => by right; have := range_lim hs; omega)
                  clear hO106 hDO107; have hO106 := hO225; have hDO107 := hDO226; clear hO225 hDO226
                  have hob230 := offs_bd hZm228.nok hs105.length (by omega)
                  refine rw_cons (op_pv (w0 rfl) rfl rfl (pv_assign (v := (.int .i64 (1 + ((offs hs105 hs105.length : Nat) : Int)))) rfl rfl) ?_)
                  refine rw_nil (hK220 _ _ ?_)
                  refine hK218 _ _ ?_
                  refine cw_seq fun K231 hK232 => ?_
                  refine cw_region fun K233 hK234 => ?_
                  refine rw_cons (op_pv (w0 rfl) rfl rfl (pv_move (v := (.slice A100 (dropP (fvs xs0) s1).length c101)) rfl rfl) ?_)
                  refine rw_cons (op_pv (w0 rfl) rfl rfl (pv_move (v := (.int .i64 (1 + ((offs hs105 hs105.length : Nat) : Int)))) rfl rfl) ?_)
                  refine rw_cons (op_call (w0 rfl) rfl rfl (rc_call C25 rfl rfl) (markIntS_ok _ (dropP (fvs xs0) s1).length _ _ _ (1 + ((offs hs105 hs105.length : Nat) : Int)) _ hO102 (by omega) (by omega) (by omega) (by omega)) ?_)
                  rintro _ w235 ⟨ys236, hyl237, hye238, rfl, hO239, hch240⟩
                  have hsz241 := hch240.size
                  replace hR0 := hR0.ch hch240 (hO102.off.le (by omega))
                  replace hD0 := hD0.ch hch240 (fun s hs => by first | exact .inr (.inl hs) | exact .inr (.inl (obl_any hs)) | exact .inr (.inr (Nat.le_trans (by omega) (hO102.off s hs))) | exact .inl (Nat.lt_of_lt_of_le (hub120 s hs) (by omega)))
                  replace hO49 := hO49.ch hch240 (fun s hs hs2 => by first | (have h1 := hO49.off s hs; have h2 := hub120 s hs2; omega) | (have h1 := hub54 s hs; have h2 := hO102.off s hs2; omega) | (have h2 := hub120 s hs2; simp [obl, Value.ownBlock] at hs; omega) | (have h1 := hub54 s hs; simp [obl, Value.ownBlock] at hs2; omega))
                  replace hDO50 := hDO50.ch hch240 (fun s hs => by first | exact .inr (.inl hs) | exact .inr (.inl (obl_any hs)) | exact .inr (.inr (Nat.le_trans (by omega) (hO102.off s hs))) | exact .inl (Nat.lt_of_lt_of_le (hub120 s hs) (by omega)))
                  replace hO62 := hO62.ch hch240 (fun s hs hs2 => by first | (have h1 := hO62.off s hs; have h2 := hub120 s hs2; omega) | (have h1 := hub71 s hs; have h2 := hO102.off s hs2; omega) | (have h2 := hub120 s hs2; simp [obl, Value.ownBlock] at hs; omega) | (have h1 := hub71 s hs; simp [obl, Value.ownBlock] at hs2; omega))
                  replace hDO63 := hDO63.ch hch240 (fun s hs => by first | exact .inr (.inl hs) | exact .inr (.inl (obl_any hs)) | exact .inr (.inr (Nat.le_trans (by omega) (hO102.off s hs))) | exact .inl (Nat.lt_of_lt_of_le (hub120 s hs) (by omega)))
                  replace hR69 := hR69.ch hch240 (hO102.off.le (by omega))
                  replace hO86 := hO86.ch hch240 (fun s hs hs2 => by first | (have h1 := hO86.off s hs; have h2 := hub120 s hs2; omega) | (have h1 := hub91 s hs; have h2 := hO102.off s hs2; omega) | (have h2 := hub120 s hs2; simp [obl, Value.ownBlock] at hs; omega) | (have h1 := hub91 s hs; simp [obl, Value.ownBlock] at hs2; omega))
                  replace hDO87 := hDO87.ch hch240 (fun s hs => by first | exact .inr (.inl hs) | exact .inr (.inl (obl_any hs)) | exact .inr (.inr (Nat.le_trans (by omega) (hO102.off s hs))) | exact .inl (Nat.lt_of_lt_of_le (hub120 s hs) (by omega)))
                  replace hO106 := hO106.ch hch240 (fun s hs hs2 => by first | (have h1 := hO106.off s hs; have h2 := hub120 s hs2; omega) | (have h1 := hBo113 s hs; have h2 := hO102.off s hs2; omega) | (have h2 := hub120 s hs2; simp [obl, Value.ownBlock] at hs; omega) | (have h1 := hBo113 s hs; simp [obl, Value.ownBlock] at hs2; omega))
                  replace hDO107 := hDO107.ch hch240 (fun s hs => by first | exact .inr (.inl hs) | exact .inr (.inl (obl_any hs)) | exact .inr (.inr (Nat.le_trans (by omega) (hO102.off s hs))) | exact .inl (Nat.lt_of_lt_of_le (hub120 s hs) (by omega)))
                  replace hO154 := hO154.ch hch240 (fun s hs hs2 => by first | (have h1 := hO154.off s hs; have h2 := hub120 s hs2; omega) | (have h1 := hub159 s hs; have h2 := hO102.off s hs2; omega) | (have h2 := hub120 s hs2; simp [obl, Value.ownBlock] at hs; omega) | (have h1 := hub159 s hs; simp [obl, Value.ownBlock] at hs2; omega))
                  replace hDO155 := hDO155.ch hch240 (fun s hs => by first | exact .inr (.inl hs) | exact .inr (.inl (obl_any hs)) | exact .inr (.inr (Nat.le_trans (by omega) (hO102.off s hs))) | exact .inl (Nat.lt_of_lt_of_le (hub120 s hs) (by omega)))
                  replace hc := (hO102.off.le (by omega)).step hc hch240
                  clear hO102; have hO102 := hO239; clear hO239
                  have hyl242 := hyl237
                  refine rw_cons (op_pv (w0 rfl) rfl rfl (pv_assign (v := (.int .i64 ((1 + ((offs hs105 hs105.length : Nat) : Int)) + (((dropP (fvs xs0) s1).length) : Int)))) rfl rfl) ?_)
                  refine rw_nil (hK234 _ _ ?_)
                  refine hK232 _ _ ?_
                  refine cw_seq fun K243 hK244 => ?_
                  refine cw_region fun K245 hK246 => ?_
                  refine rw_cons (op_pv (w0 rfl) rfl rfl (pv_assign (v := (.int .i64 1)) rfl rfl) ?_)
                  refine rw_nil (hK246 _ _ ?_)
                  refine hK244 _ _ ?_
                  refine cw_seq fun K247 hK248 => ?_
                  refine cw_region fun K249 hK250 => ?_
                  refine rw_cons (op_pv (w0 rfl) rfl rfl (pv_move (v := (.slice A103 hs105.length c104)) rfl rfl) ?_)
                  refine rw_cons (op_pv (w0 rfl) rfl rfl (pv_move (v := (.int .i64 1)) rfl rfl) ?_)
                  refine rw_cons (op_call (w0 rfl) rfl rfl (rc_call C26 rfl rfl) (heldFileS_ok _ hs105.length _ ys222 1 _ (hO106.rs (fun _ => rfl)) (hDO107.any (by omega)) (Shape.nok hsh223 hZm228.nok) hmk224 (by omega) (by omega) (by omega)) ?_)
                  rintro _ w251 ⟨rfl, hch252⟩
                  rw [offs_same (hs := hs105) (ys := ys222) (fun k => (hsh223.2 k).2.1)]
                  have hsz253 := hch252.size
                  replace hR0 := hR0.ch0 hch252
                  replace hD0 := hD0.ch0 hch252
                  replace hO49 := hO49.ch0 hch252
                  replace hDO50 := hDO50.ch0 hch252
                  replace hO62 := hO62.ch0 hch252
                  replace hDO63 := hDO63.ch0 hch252
                  replace hR69 := hR69.ch0 hch252
                  replace hO86 := hO86.ch0 hch252
                  replace hDO87 := hDO87.ch0 hch252
                  replace hO106 := hO106.ch0 hch252
                  replace hDO107 := hDO107.ch0 hch252
                  replace hO102 := hO102.ch0 hch252
                  replace hO154 := hO154.ch0 hch252
                  replace hDO155 := hDO155.ch0 hch252
                  replace hc := hc.step0 hch252
                  refine rw_cons (op_pv (w0 rfl) rfl rfl (pv_assign (v := (.int .i64 (1 + ((offs hs105 hs105.length : Nat) : Int)))) rfl rfl) ?_)
                  refine rw_nil (hK250 _ _ ?_)
                  refine hK248 _ _ ?_
                  refine cw_seq fun K254 hK255 => ?_
                  refine cw_seq fun K256 hK257 => ?_
                  refine cw_region fun K258 hK259 => ?_
                  refine rw_cons (op_pv (w0 rfl) rfl rfl (pv_move (v := (.int .i64 (1 + ((offs hs105 hs105.length : Nat) : Int)))) rfl rfl) ?_)
                  refine rw_cons (op_pv (w0 rfl) rfl rfl (pv_lss rfl rfl rfl) ?_)
                  refine rw_nil (hK259 _ _ ?_)
                  refine hK257 _ _ ?_
                  refine cw_cond rfl (fun h260 => ?_) (fun h260 => ?_)
                  · -- then
                    replace h260 := of_decide_eq_true h260
                    refine cw_seq fun K261 hK262 => ?_
                    refine cw_region fun K263 hK264 => ?_
                    refine rw_cons (op_pv (w0 rfl) rfl rfl (pv_assign (v := (.bool false)) rfl rfl) ?_)
                    refine rw_nil (hK264 _ _ ?_)
                    refine hK262 _ _ ?_
                    refine cw_ret ?_
                    refine fin1 rfl ?_
                    first
                      | exact ⟨rfl, hc⟩
                      | (exfalso; omega)
                      | exact absurd rfl (by assumption)
                      | exact absurd (by simp only [*]) (by assumption)
                  · -- else
                    replace h260 := of_decide_eq_false h260
                    refine cw_skip ?_
                    refine hK255 _ _ ?_
                    refine cw_seq fun K265 hK266 => ?_
                    refine cw_region fun K267 hK268 => ?_
                    refine rw_cons (op_pv (w0 rfl) rfl rfl (pv_move (v := (.slice A100 (dropP (fvs xs0) s1).length c101)) rfl rfl) ?_)
                    refine rw_cons (op_pv (w0 rfl) rfl rfl (pv_move (v := (.int .i64 (1 + ((offs hs105 hs105.length : Nat) : Int)))) rfl rfl) ?_)
                    refine rw_cons (op_call (w0 rfl) rfl rfl (rc_call C27 rfl rfl) (heldIntS_ok _ (dropP (fvs xs0) s1).length _ ys236 (1 + ((offs hs105 hs105.length : Nat) : Int)) _ (hO102.rs (fun _ => rfl)) (by omega) (by omega) (by omega) hye238) ?_)
                    rintro _ w269 ⟨rfl, hch270⟩
                    have hsz271 := hch270.size
                    replace hR0 := hR0.ch0 hch270
                    replace hD0 := hD0.ch0 hch270
                    replace hO49 := hO49.ch0 hch270
                    replace hDO50 := hDO50.ch0 hch270
                    replace hO62 := hO62.ch0 hch270
                    replace hDO63 := hDO63.ch0 hch270
                    replace hR69 := hR69.ch0 hch270
                    replace hO86 := hO86.ch0 hch270
                    replace hDO87 := hDO87.ch0 hch270
                    replace hO106 := hO106.ch0 hch270
                    replace hDO107 := hDO107.ch0 hch270
                    replace hO102 := hO102.ch0 hch270
                    replace hO154 := hO154.ch0 hch270
                    replace hDO155 := hDO155.ch0 hch270
                    replace hc := hc.step0 hch270
                    refine rw_cons (op_pv (w0 rfl) rfl rfl (pv_assign (v := (.int .i64 ((1 + ((offs hs105 hs105.length : Nat) : Int)) + (((dropP (fvs xs0) s1).length) : Int)))) rfl rfl) ?_)
                    refine rw_nil (hK268 _ _ ?_)
                    refine hK266 _ _ ?_
                    refine cw_seq fun K272 hK273 => ?_
                    refine cw_seq fun K274 hK275 => ?_
                    refine cw_region fun K276 hK277 => ?_
                    refine rw_cons (op_pv (w0 rfl) rfl rfl (pv_move (v := (.int .i64 ((1 + ((offs hs105 hs105.length : Nat) : Int)) + (((dropP (fvs xs0) s1).length) : Int)))) rfl rfl) ?_)
                    refine rw_cons (op_pv (w0 rfl) rfl rfl (pv_lss rfl rfl rfl) ?_)
                    refine rw_nil (hK277 _ _ ?_)
                    refine hK275 _ _ ?_
                    refine cw_cond rfl (fun h278 => ?_) (fun h278 => ?_)
                    · -- then
                      replace h278 := of_decide_eq_true h278
                      refine cw_seq fun K279 hK280 => ?_
                      refine cw_region fun K281 hK282 => ?_
                      refine rw_cons (op_pv (w0 rfl) rfl rfl (pv_assign (v := (.bool false)) rfl rfl) ?_)
                      refine rw_nil (hK282 _ _ ?_)
                      refine hK280 _ _ ?_
                      refine cw_ret ?_
                      refine fin1 rfl ?_
                      first
                        | exact ⟨rfl, hc⟩
                        | (exfalso; omega)
                        | exact absurd rfl (by assumption)
                        | exact absurd (by simp only [*]) (by assumption)
                    · -- else
                      replace h278 := of_decide_eq_false h278
                      refine cw_skip ?_
                      refine hK273 _ _ ?_
                      refine cw_seq fun K283 hK284 => ?_
                      refine cw_seq fun K285 hK286 => ?_
                      refine cw_region fun K287 hK288 => ?_
                      refine rw_cons (op_pv (w0 rfl) rfl rfl (pv_move (v := (.int .i64 ((1 + ((offs hs105 hs105.length : Nat) : Int)) + (((dropP (fvs xs0) s1).length) : Int)))) rfl rfl) ?_)
                      refine rw_cons (op_pv (w0 rfl) rfl rfl (pv_move (v := (.int .i64 ((1 + ((offs hs105 hs105.length : Nat) : Int)) + (((dropP (fvs xs0) s1).length) : Int)))) rfl rfl) ?_)
                      refine rw_cons (op_pv (w0 rfl) rfl rfl (pv_nes rfl rfl rfl) ?_)
                      refine rw_nil (hK288 _ _ ?_)
                      refine hK286 _ _ ?_
                      refine cw_cond rfl (fun h289 => ?_) (fun h289 => ?_)
                      · -- then
                        cases h289
                      · -- else
                        clear h289
                        refine cw_skip ?_
                        refine hK284 _ _ ?_
                        refine cw_seq fun K290 hK291 => ?_
                        refine cw_region fun K292 hK293 => ?_
                        refine rw_cons (op_pv (w0 rfl) rfl rfl (pv_move (v := (.slice A0 n0 c0)) rfl rfl) ?_)
                        refine rw_cons (op_call (w0 rfl) rfl rfl (rc_call C20 rfl rfl) (toFileS_ok _ n0 _ xs0 _ (hR0.more (by omega)) (hD0.any (by omega)) (by first | assumption | omega) (by omega)) ?_)
                        rintro _ w294 ⟨A296, c297, hs298, rfl, hO299, hDO300, hfe301, hZ302, hch295⟩
                        have hsz303 := hch295.size
                        replace hR0 := hR0.ch0 hch295
                        replace hD0 := hD0.ch0 hch295
                        replace hO49 := hO49.ch0 hch295
                        replace hDO50 := hDO50.ch0 hch295
                        replace hO62 := hO62.ch0 hch295
                        replace hDO63 := hDO63.ch0 hch295
                        replace hR69 := hR69.ch0 hch295
                        replace hO86 := hO86.ch0 hch295
                        replace hDO87 := hDO87.ch0 hch295
                        replace hO106 := hO106.ch0 hch295
                        replace hDO107 := hDO107.ch0 hch295
                        replace hO102 := hO102.ch0 hch295
                        replace hO154 := hO154.ch0 hch295
                        replace hDO155 := hDO155.ch0 hch295
                        replace hc := hc.step0 hch295
                        have hub304 := hO299.lt
                        have hcap305 : hs298.length ≤ c297 := by obtain ⟨_, _, hv, h1, _⟩ := hO299.form; injection hv with _ _ h3; omega
                        have hfl306 : hs298.length = (fvs xs0).length := by rw [← hfe301, fvs_len]
                        try rw [fvs_len] at hfl306
                        refine rw_cons (op_pv (w0 rfl) rfl rfl (pv_move (v := (.string s1)) rfl rfl) ?_)
                        refine rw_cons (op_call (w0 rfl) rfl rfl (rc_call C21 rfl rfl) (FileDrop_i _ hs298.length _ hs298 s1 _ (hO299.rs (fun _ => rfl)) (hDO300.any (by omega)) (by first | assumption | exact SzOK.nil) (by omega) (by omega)) ?_)
                        rintro _ w307 ⟨A312, c313, hs314, A309, c310, rfl, hO311, hO315, hDO316, hfe317, hZ318, ⟨B0_319, hB1320, hB2321, hBo322, hDOs323, hOs324⟩, hch308⟩
                        try rw [hfe301]
                        try rw [hfe301] at hO311
                        try rw [hfe301] at hfe317
                        try rw [hfe301] at hOs324
                        have hsz325 := hch308.size
                        replace hR0 := hR0.ch0 hch308
                        replace hD0 := hD0.ch0 hch308
                        replace hO49 := hO49.ch0 hch308
                        replace hDO50 := hDO50.ch0 hch308
                        replace hO62 := hO62.ch0 hch308
                        replace hDO63 := hDO63.ch0 hch308
                        replace hR69 := hR69.ch0 hch308
                        replace hO86 := hO86.ch0 hch308
                        replace hDO87 := hDO87.ch0 hch308
                        replace hO106 := hO106.ch0 hch308
                        replace hDO107 := hDO107.ch0 hch308
                        replace hO102 := hO102.ch0 hch308
                        replace hO154 := hO154.ch0 hch308
                        replace hDO155 := hDO155.ch0 hch308
                        replace hO299 := hO299.ch0 hch308
                        replace hDO300 := hDO300.ch0 hch308
                        replace hc := hc.step0 hch308
                        have hub326 := hO315.lt
                        have hcap327 : hs314.length ≤ c313 := by obtain ⟨_, _, hv, h1, _⟩ := hO315.form; injection hv with _ _ h3; omega
                        have hfl328 : hs314.length = (dropV (fvs xs0) s1).length := by rw [← hfe317, fvs_len]
                        try simp only [fvs_len, List.length_take, List.length_drop] at hfl328
                        have hub329 := hO311.lt
                        have hcap330 : (dropP (fvs xs0) s1).length ≤ c310 := by obtain ⟨_, _, hv, h1, _⟩ := hO311.form; injection hv with _ _ h3; omega
                        replace hDO316 := hDOs323; replace hO311 := hOs324
                        have hnt331 := dropV_le (fvs xs0) s1
                        have hnt332 := dropP_le (fvs xs0) s1
                        refine rw_cons (op_pv (w0 rfl) rfl rfl (pv_move (v := (.tuple #[(.slice A312 hs314.length c313), (.slice A309 (dropP (fvs xs0) s1).length c310), (.bool (dec (DropOK (fvs xs0) s1)))])) rfl rfl) ?_)
                        refine rw_cons (op_pv (w0 rfl) rfl rfl (pv_ext (v := (.slice A312 hs314.length c313)) rfl rfl rfl) ?_)
                        refine rw_cons (op_pv (w0 rfl) rfl rfl (pv_ext (v := (.slice A309 (dropP (fvs xs0) s1).length c310)) rfl rfl rfl) ?_)
                        refine rw_cons (op_pv (w0 rfl) rfl rfl (pv_ext (v := (.bool (dec (DropOK (fvs xs0) s1)))) rfl rfl rfl) ?_)
                        refine rw_cons (op_pv (w0 rfl) rfl rfl (pv_assign (v := (.slice A312 hs314.length c313)) rfl rfl) ?_)
                        refine rw_cons (op_pv (w0 rfl) rfl rfl (pv_assign (v := (.slice A309 (dropP (fvs xs0) s1).length c310)) rfl rfl) ?_)
                        refine rw_cons (op_pv (w0 rfl) rfl rfl (pv_assign (v := (.bool (dec (DropOK (fvs xs0) s1)))) rfl rfl) ?_)
                        refine rw_nil (hK293 _ _ ?_)
                        refine hK291 _ _ ?_
                        refine cw_seq fun K333 hK334 => ?_
                        refine cw_seq fun K335 hK336 => ?_
                        refine cw_region fun K337 hK338 => ?_
                        refine rw_cons (op_pv (w0 rfl) rfl rfl (pv_move (v := (.slice A312 hs314.length c313)) rfl rfl) ?_)
                        refine rw_cons (op_pv (w0 rfl) rfl rfl (pv_move (v := (.slice A59 hs61.length c60)) rfl rfl) ?_)
                        refine rw_cons (op_call (w0 rfl) rfl rfl (rc_call C22 rfl rfl) (eqFileS_ok _ hs314.length _ hs314 _ hs61.length _ hs61 _ (hO315.rs (fun _ => rfl)) (hDO316.any (by omega)) (by first | assumption | exact SzOK.nil) (by omega) (hO62.rs (fun _ => rfl)) (hDO63.any (by omega)) (by first | assumption | exact SzOK.nil) (by omega)) ?_)
                        rintro _ w339 ⟨rfl, hch340⟩
                        try rw [hfe317]
                        try rw [hfe64]
                        have hsz341 := hch340.size
                        replace hR0 := hR0.ch0 hch340
                        replace hD0 := hD0.ch0 hch340
                        replace hO49 := hO49.ch0 hch340
                        replace hDO50 := hDO50.ch0 hch340
                        replace hO62 := hO62.ch0 hch340
                        replace hDO63 := hDO63.ch0 hch340
                        replace hR69 := hR69.ch0 hch340
                        replace hO86 := hO86.ch0 hch340
                        replace hDO87 := hDO87.ch0 hch340
                        replace hO106 := hO106.ch0 hch340
                        replace hDO107 := hDO107.ch0 hch340
                        replace hO102 := hO102.ch0 hch340
                        replace hO154 := hO154.ch0 hch340
                        replace hDO155 := hDO155.ch0 hch340
                        replace hO299 := hO299.ch0 hch340
                        replace hDO300 := hDO300.ch0 hch340
                        replace hO315 := hO315.ch0 hch340
                        replace hDO316 := hDO316.ch0 hch340
                        replace hO311 := hO311.ch0 hch340
                        replace hc := hc.step0 hch340
                        refine rw_cons (op_pv (w0 rfl) rfl rfl (pv_not rfl rfl) ?_)
                        refine rw_cons (op_pv (w0 rfl) rfl rfl (pv_move (v := (.bool (!(dec (dropV (fvs xs0) s1 = dropV (fvs xs0) s1))))) rfl rfl) ?_)
                        refine rw_split 117 rfl (fun hb342 => ?_) (fun hb342 => ?_)
                        · -- yes
                          replace hb342 := not_t hb342
                          replace hb342 := dec_f hb342
                          refine rw_cons (op_pass (w1n2 rfl rfl rfl rfl) rfl rfl ?_)
                          refine rw_cons (op_pass (w1n2 rfl rfl rfl rfl) rfl rfl ?_)
                          refine rw_cons (op_pass (w1n2 rfl rfl rfl rfl) rfl rfl ?_)
                          refine rw_cons (op_pass (w1n2 rfl rfl rfl rfl) rfl rfl ?_)
                          refine rw_cons (op_pv (w0 rfl) rfl rfl (pv_pickT (v := (.bool true)) rfl rfl rfl) ?_)
                          refine rw_cons (op_pv (w0 rfl) rfl rfl (pv_move (v := (.bool true)) rfl rfl) ?_)
                          refine rw_cons (op_pass (w1n2 rfl rfl rfl rfl) rfl rfl ?_)
                          refine rw_cons (op_pass (w1n2 rfl rfl rfl rfl) rfl rfl ?_)
                          refine rw_cons (op_pass (w1n2 rfl rfl rfl rfl) rfl rfl ?_)
                          refine rw_cons (op_pv (w0 rfl) rfl rfl (pv_pickT (v := (.bool true)) rfl rfl rfl) ?_)
                          refine rw_nil (hK338 _ _ ?_)
                          refine hK336 _ _ ?_
                          refine cw_cond rfl (fun h343 => ?_) (fun h343 => ?_)
                          · -- then
                            clear h343
                            refine cw_seq fun K344 hK345 => ?_
                            refine cw_region fun K346 hK347 => ?_
                            refine rw_cons (op_pv (w0 rfl) rfl rfl (pv_assign (v := (.bool false)) rfl rfl) ?_)
                            refine rw_nil (hK347 _ _ ?_)
                            refine hK345 _ _ ?_
                            refine cw_ret ?_
                            refine fin1 rfl ?_
                            first
                              | exact ⟨rfl, hc⟩
                              | (exfalso; omega)
                              | exact absurd rfl (by assumption)
                              | exact absurd (by simp only [*]) (by assumption)
                          · -- else
                            cases h343
                        · -- no
                          replace hb342 := not_f hb342
                          replace hb342 := dec_t hb342
                          refine rw_cons (op_pv (w1y rfl rfl rfl rfl) rfl rfl (pv_move (v := (.slice A309 (dropP (fvs xs0) s1).length c310)) rfl rfl) ?_)
                          refine rw_cons (op_pv (w1y rfl rfl rfl rfl) rfl rfl (pv_move (v := (.slice A66 n67 c68)) rfl rfl) ?_)
                          refine rw_cons (op_call (w1y rfl rfl rfl rfl) rfl rfl (rc_call C23 rfl rfl) (eqIntS_same _ _ _ _ _ _ (dropP (fvs xs0) s1) _ (hO311.rs (fun _ => rfl)) (hR69.more (by omega)) (by omega)) ?_)
                          rintro _ w348 ⟨rfl, hch349⟩
                          have hsz350 := hch349.size
                          replace hR0 := hR0.ch0 hch349
                          replace hD0 := hD0.ch0 hch349
                          replace hO49 := hO49.ch0 hch349
                          replace hDO50 := hDO50.ch0 hch349
                          replace hO62 := hO62.ch0 hch349
                          replace hDO63 := hDO63.ch0 hch349
                          replace hR69 := hR69.ch0 hch349
                          replace hO86 := hO86.ch0 hch349
                          replace hDO87 := hDO87.ch0 hch349
                          replace hO106 := hO106.ch0 hch349
                          replace hDO107 := hDO107.ch0 hch349
                          replace hO102 := hO102.ch0 hch349
                          replace hO154 := hO154.ch0 hch349
                          replace hDO155 := hDO155.ch0 hch349
                          replace hO299 := hO299.ch0 hch349
                          replace hDO300 := hDO300.ch0 hch349
                          replace hO315 := hO315.ch0 hch349
                          replace hDO316 := hDO316.ch0 hch349
                          replace hO311 := hO311.ch0 hch349
                          replace hc := hc.step0 hch349
                          refine rw_cons (op_pv (w1y rfl rfl rfl rfl) rfl rfl (pv_not rfl rfl) ?_)
                          refine rw_cons (op_pv (w0 rfl) rfl rfl (pv_pickF (v := (.bool (!true))) rfl rfl rfl) ?_)
                          refine rw_cons (op_pv (w0 rfl) rfl rfl (pv_move (v := (.bool (!true))) rfl rfl) ?_)
                          refine rw_cons (op_pv (w1y rfl rfl rfl rfl) rfl rfl (pv_move (v := (.bool (dec (DropOK (fvs xs0) s1)))) rfl rfl) ?_)
                          refine rw_cons (op_pv (w1y rfl rfl rfl rfl) rfl rfl (pv_move (v := (.bool (dec (DropOK (fvs xs0) s1)))) rfl rfl) ?_)
                          refine rw_cons (op_pv (w1y rfl rfl rfl rfl) rfl rfl (pv_neBs Try.underlying4 rfl rfl rfl) ?_)
                          refine rw_cons (op_pv (w0 rfl) rfl rfl (pv_pickF (v := (.bool false)) rfl rfl rfl) ?_)
                          refine rw_nil (hK338 _ _ ?_)
                          refine hK336 _ _ ?_
                          refine cw_cond rfl (fun h351 => ?_) (fun h351 => ?_)
                          · -- then
                            cases h351
                          · -- else
                            clear h351
                            refine cw_skip ?_
                            refine hK334 _ _ ?_
                            refine cw_seq fun K352 hK353 => ?_
                            refine cw_region fun K354 hK355 => ?_
                            refine rw_cons (op_pv (w0 rfl) rfl rfl (pv_assign (v := (.int .i64 1)) rfl rfl) ?_)
                            refine rw_nil (hK355 _ _ ?_)
                            refine hK353 _ _ ?_
                            refine cw_seq fun K356 hK357 => ?_
                            refine cw_region fun K358 hK359 => ?_
                            refine rw_cons (op_pv (w0 rfl) rfl rfl (pv_move (v := (.slice A103 hs105.length c104)) rfl rfl) ?_)
                            refine rw_cons (op_pv (w0 rfl) rfl rfl (pv_move (v := (.int .i64 1)) rfl rfl) ?_)
                            refine rw_cons (op_call (w0 rfl) rfl rfl (rc_call C26 rfl rfl) (heldFileS_ok _ hs105.length _ ys222 1 _ (hO106.rs (fun _ => rfl)) (hDO107.any (by omega)) (Shape.nok hsh223 hZm228.nok) hmk224 (by omega) (by omega) (by omega)) ?_)
                            rintro _ w360 ⟨rfl, hch361⟩
                            rw [offs_same (hs := hs105) (ys := ys222) (fun k => (hsh223.2 k).2.1)]
                            have hsz362 := hch361.size
                            replace hR0 := hR0.ch0 hch361
                            replace hD0 := hD0.ch0 hch361
                            replace hO49 := hO49.ch0 hch361
                            replace hDO50 := hDO50.ch0 hch361
                            replace hO62 := hO62.ch0 hch361
                            replace hDO63 := hDO63.ch0 hch361
                            replace hR69 := hR69.ch0 hch361
                            replace hO86 := hO86.ch0 hch361
                            replace hDO87 := hDO87.ch0 hch361
                            replace hO106 := hO106.ch0 hch361
                            replace hDO107 := hDO107.ch0 hch361
                            replace hO102 := hO102.ch0 hch361
                            replace hO154 := hO154.ch0 hch361
                            replace hDO155 := hDO155.ch0 hch361
                            replace hO299 := hO299.ch0 hch361
                            replace hDO300 := hDO300.ch0 hch361
                            replace hO315 := hO315.ch0 hch361
                            replace hDO316 := hDO316.ch0 hch361
                            replace hO311 := hO311.ch0 hch361
                            replace hc := hc.step0 hch361
                            refine rw_cons (op_pv (w0 rfl) rfl rfl (pv_assign (v := (.int .i64 (1 + ((offs hs105 hs105.length : Nat) : Int)))) rfl rfl) ?_)
                            refine rw_nil (hK359 _ _ ?_)
                            refine hK357 _ _ ?_
                            refine cw_seq fun K363 hK364 => ?_
                            refine cw_seq fun K365 hK366 => ?_
                            refine cw_region fun K367 hK368 => ?_
                            refine rw_cons (op_pv (w0 rfl) rfl rfl (pv_move (v := (.int .i64 (1 + ((offs hs105 hs105.length : Nat) : Int)))) rfl rfl) ?_)
                            refine rw_cons (op_pv (w0 rfl) rfl rfl (pv_lss rfl rfl rfl) ?_)
                            refine rw_nil (hK368 _ _ ?_)
                            refine hK366 _ _ ?_
                            refine cw_cond rfl (fun h369 => ?_) (fun h369 => ?_)
                            · -- then
                              replace h369 := of_decide_eq_true h369
                              refine cw_seq fun K370 hK371 => ?_
                              refine cw_region fun K372 hK373 => ?_
                              refine rw_cons (op_pv (w0 rfl) rfl rfl (pv_assign (v := (.bool false)) rfl rfl) ?_)
                              refine rw_nil (hK373 _ _ ?_)
                              refine hK371 _ _ ?_
                              refine cw_ret ?_
                              refine fin1 rfl ?_
                              first
                                | exact ⟨rfl, hc⟩
                                | (exfalso; omega)
                                | exact absurd rfl (by assumption)
                                | exact absurd (by simp only [*]) (by assumption)
                            · -- else
                              replace h369 := of_decide_eq_false h369
                              refine cw_skip ?_
                              refine hK364 _ _ ?_
                              refine cw_seq fun K374 hK375 => ?_
                              refine cw_region fun K376 hK377 => ?_
                              refine rw_cons (op_pv (w0 rfl) rfl rfl (pv_move (v := (.slice A100 (dropP (fvs xs0) s1).length c101)) rfl rfl) ?_)
                              refine rw_cons (op_pv (w0 rfl) rfl rfl (pv_move (v := (.int .i64 (1 + ((offs hs105 hs105.length : Nat) : Int)))) rfl rfl) ?_)
                              refine rw_cons (op_call (w0 rfl) rfl rfl (rc_call C27 rfl rfl) (heldIntS_ok _ (dropP (fvs xs0) s1).length _ ys236 (1 + ((offs hs105 hs105.length : Nat) : Int)) _ (hO102.rs (fun _ => rfl)) (by omega) (by omega) (by omega) hye238) ?_)
                              rintro _ w378 ⟨rfl, hch379⟩
                              have hsz380 := hch379.size
                              replace hR0 := hR0.ch0 hch379
                              replace hD0 := hD0.ch0 hch379
                              replace hO49 := hO49.ch0 hch379
                              replace hDO50 := hDO50.ch0 hch379
                              replace hO62 := hO62.ch0 hch379
                              replace hDO63 := hDO63.ch0 hch379
                              replace hR69 := hR69.ch0 hch379
                              replace hO86 := hO86.ch0 hch379
                              replace hDO87 := hDO87.ch0 hch379
                              replace hO106 := hO106.ch0 hch379
                              replace hDO107 := hDO107.ch0 hch379
                              replace hO102 := hO102.ch0 hch379
                              replace hO154 := hO154.ch0 hch379
                              replace hDO155 := hDO155.ch0 hch379
                              replace hO299 := hO299.ch0 hch379
                              replace hDO300 := hDO300.ch0 hch379
                              replace hO315 := hO315.ch0 hch379
                              replace hDO316 := hDO316.ch0 hch379
                              replace hO311 := hO311.ch0 hch379
                              replace hc := hc.step0 hch379
                              refine rw_cons (op_pv (w0 rfl) rfl rfl (pv_assign (v := (.int .i64 ((1 + ((offs hs105 hs105.length : Nat) : Int)) + (((dropP (fvs xs0) s1).length) : Int)))) rfl rfl) ?_)
                              refine rw_nil (hK377 _ _ ?_)
                              refine hK375 _ _ ?_
                              refine cw_seq fun K381 hK382 => ?_
                              refine cw_seq fun K383 hK384 => ?_
                              refine cw_region fun K385 hK386 => ?_
                              refine rw_cons (op_pv (w0 rfl) rfl rfl (pv_move (v := (.int .i64 ((1 + ((offs hs105 hs105.length : Nat) : Int)) + (((dropP (fvs xs0) s1).length) : Int)))) rfl rfl) ?_)
                              refine rw_cons (op_pv (w0 rfl) rfl rfl (pv_lss rfl rfl rfl) ?_)
                              refine rw_nil (hK386 _ _ ?_)
                              refine hK384 _ _ ?_
                              refine cw_cond rfl (fun h387 => ?_) (fun h387 => ?_)
                              · -- then
                                replace h387 := of_decide_eq_true h387
                                refine cw_seq fun K388 hK389 => ?_
                                refine cw_region fun K390 hK391 => ?_
                                refine rw_cons (op_pv (w0 rfl) rfl rfl (pv_assign (v := (.bool false)) rfl rfl) ?_)
                                refine rw_nil (hK391 _ _ ?_)
                                refine hK389 _ _ ?_
                                refine cw_ret ?_
                                refine fin1 rfl ?_
                                first
                                  | exact ⟨rfl, hc⟩
                                  | (exfalso; omega)
                                  | exact absurd rfl (by assumption)
                                  | exact absurd (by simp only [*]) (by assumption)
                              · -- else
                                replace h387 := of_decide_eq_false h387
                                refine cw_skip ?_
                                refine hK382 _ _ ?_
                                refine cw_seq fun K392 hK393 => ?_
                                refine cw_seq fun K394 hK395 => ?_
                                refine cw_region fun K396 hK397 => ?_
                                refine rw_cons (op_pv (w0 rfl) rfl rfl (pv_move (v := (.int .i64 ((1 + ((offs hs105 hs105.length : Nat) : Int)) + (((dropP (fvs xs0) s1).length) : Int)))) rfl rfl) ?_)
                                refine rw_cons (op_pv (w0 rfl) rfl rfl (pv_move (v := (.int .i64 ((1 + ((offs hs105 hs105.length : Nat) : Int)) + (((dropP (fvs xs0) s1).length) : Int)))) rfl rfl) ?_)
                                refine rw_cons (op_pv (w0 rfl) rfl rfl (pv_nes rfl rfl rfl) ?_)
                                refine rw_nil (hK397 _ _ ?_)
                                refine hK395 _ _ ?_
                                refine cw_cond rfl (fun h398 => ?_) (fun h398 => ?_)
                                · -- then
                                  cases h398
                                · -- else
                                  clear h398
                                  refine cw_skip ?_
                                  refine hK393 _ _ ?_
                                  refine cw_seq fun K399 hK400 => ?_
                                  refine cw_region fun K401 hK402 => ?_
                                  refine rw_cons (op_pv (w0 rfl) rfl rfl (pv_assign (v := (.bool true)) rfl rfl) ?_)
                                  refine rw_nil (hK402 _ _ ?_)
                                  refine hK400 _ _ ?_
                                  refine cw_ret ?_
                                  refine fin1 rfl ?_
                                  first
                                    | exact ⟨rfl, hc⟩
                                    | (exfalso; omega)
                                    | exact absurd rfl (by assumption)
                                    | exact absurd (by simp only [*]) (by assumption)
end Go.Proofs.Ythgnlljpjpklpaa

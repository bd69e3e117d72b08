/-
  The walk of spec.FileMake, written by program: each line names the law of one operation. Conditions: those of the theorem.
-/
import Derived.Test.YthgnlljpjpklpaaProg
import Derived.Test.YthgnlljpjpklpaaDeep
import Derived.Test.YthgnlljpjpklpaaFlaw
import Derived.Test.YthgnlljpjpklpaaFops
import Derived.Test.YthgnlljpjpklpaaFspecFilesValid
import Derived.Test.YthgnlljpjpklpaaFspecl21At
import Derived.Test.YthgnlljpjpklpaaFspecl21Copy
import Derived.KernelRfl
namespace Go.Proofs.Ythgnlljpjpklpaa
open Go Go.RowKit
set_option linter.unusedVariables false
set_option linter.unusedSimpArgs false
namespace FileMake_sF
theorem T9 : TI Try.prog 9 false (.string { data := #[] }) 1 16 := TI.mk' Try.underlying9 rfl (by kernel_rfl)
theorem T48 : TI Try.prog 48 true (.agg #[.string { data := #[] }, .slice none 0 0]) 2 40 := TI.mk' Try.underlying48 rfl (by kernel_rfl)
theorem F48_0 : FldOK Try.prog 48 0 0 := ⟨_, _, 0, Try.underlying48, rfl, rfl, by kernel_rfl⟩
theorem C32 : Callable Try.prog 32 := ⟨_, Try.func32, by kernel_rfl, by kernel_rfl⟩
theorem C46 : Callable Try.prog 46 := ⟨_, Try.func46, by kernel_rfl, by kernel_rfl⟩
theorem C47 : Callable Try.prog 47 := ⟨_, Try.func47, by kernel_rfl, by kernel_rfl⟩
theorem B48_0S (a0 : ByteArray) (u : World) : (Instr.build 48 #[(0, .string a0)]).run Try.prog u = .ok (.agg #[.string a0, .slice none 0 0]) u := by kernel_rfl
end FileMake_sF
open FileMake_sF in
set_option maxHeartbeats 4000000 in
theorem FileMake_s (Ahs : Option Addr) (nhs chs : Nat) (hs : List Fl) (nq : ByteArray) (w : World) (hRhs : RS encF 2 w w.heap.size Ahs nhs hs) (hDhs : DX 0 w.heap.size [] w hs) (hZhs : SzOK hs) (hNhs : nhs ≤ 1099511627776) (hs9 : nq.size ≤ 1099511627776) (h8 : nhs ≤ 1048576) :
    Fn Try.prog 28 [(.slice Ahs nhs chs), (.string nq)] w fun v w' => ∃ A_0 c_0 h_0, v = .tuple #[.slice A_0 h_0.length c_0, .bool (dec (MakeOK (fvs hs) nq))] ∧ Own encF 2 w' w.heap.size 48 (.slice A_0 h_0.length c_0) h_0 ∧ DX w.heap.size w'.heap.size [] w' h_0 ∧ fvs h_0 = makeV (fvs hs) nq ∧ SzOK h_0 ∧ Ch [] w w' := by
  have hlenhs := hRhs.len
  refine fn_of (n := 64) Try.func28 rfl rfl rfl rfl ?_
  have hc : Ch [] w w := Ch.refl _ _
  refine cw_seq fun K1 hK2 => ?_
  refine cw_region fun K3 hK4 => ?_
  refine rw_cons (op_pv (w0 rfl) rfl rfl (pv_assign (v := (.slice none 0 0)) rfl rfl) ?_)
  refine rw_cons (op_pv (w0 rfl) rfl rfl (pv_assign (v := (.bool false)) rfl rfl) ?_)
  refine rw_nil (hK4 _ _ ?_)
  refine hK2 _ _ ?_
  refine cw_seq fun K5 hK6 => ?_
  refine cw_seq fun K7 hK8 => ?_
  refine cw_region fun K9 hK10 => ?_
  refine rw_cons (op_pv (w0 rfl) rfl rfl (pv_move (v := (.slice Ahs nhs chs)) rfl rfl) ?_)
  refine rw_cons (op_call (w0 rfl) rfl rfl (rc_call C32 rfl rfl) (FilesValid_s _ nhs _ hs _ (hRhs.more (by omega)) (hDhs.any (by omega)) (by first | assumption | exact SzOK.nil) (by omega) (by omega)) ?_)
  rintro _ w11 ⟨rfl, hch12⟩
  have hsz13 := hch12.size
  replace hRhs := hRhs.ch0 hch12
  replace hDhs := hDhs.ch0 hch12
  replace hc := hc.step0 hch12
  refine rw_cons (op_pv (w0 rfl) rfl rfl (pv_not rfl rfl) ?_)
  refine rw_cons (op_pv (w0 rfl) rfl rfl (pv_move (v := (.bool (!(dec (FOK (fvs hs)))))) rfl rfl) ?_)
  refine rw_split 13 rfl (fun hb14 => ?_) (fun hb14 => ?_)
  · -- yes
    replace hb14 := not_t hb14
    replace hb14 := dec_f hb14
    refine rw_cons (op_pass (w1n2 rfl rfl rfl rfl) rfl rfl ?_)
    refine rw_cons (op_pass (w1n2 rfl rfl rfl rfl) rfl rfl ?_)
    refine rw_cons (op_pass (w1n2 rfl rfl rfl rfl) rfl rfl ?_)
    refine rw_cons (op_pass (w1n2 rfl rfl rfl rfl) rfl rfl ?_)
    refine rw_cons (op_pv (w0 rfl) rfl rfl (pv_pickT (v := (.bool true)) rfl rfl rfl) ?_)
    refine rw_nil (hK10 _ _ ?_)
    refine hK8 _ _ ?_
    refine cw_cond rfl (fun h15 => ?_) (fun h15 => ?_)
    · -- then
      clear h15
      refine cw_seq fun K16 hK17 => ?_
      refine cw_region fun K18 hK19 => ?_
      refine rw_cons (op_bslice [] Try.underlying24 T48 (w0 rfl) rfl rfl rfl rfl rfl (by simp [Value.cells]) (by decide) ?_)
      intro g21 w20 hg24 hg25 hK23 hch22
      have hO26 : Own encF 2 w20 w11.heap.size 48 (.slice (some ⟨g21, 0, none⟩) 0 0) ([] : List Fl) := Blk.own (xs := ([] : List Fl)) hK23 (by omega) rfl (by decide) rfl
      have hsz27 := hch22.size
      replace hRhs := hRhs.ch0 hch22
      replace hDhs := hDhs.ch0 hch22
      replace hc := hc.step0 hch22
      have hub28 := hO26.lt
      refine rw_cons (op_pv (w0 rfl) rfl rfl (pv_assign (v := (.slice (some ⟨g21, 0, none⟩) 0 0)) rfl rfl) ?_)
      refine rw_cons (op_pv (w0 rfl) rfl rfl (pv_assign (v := (.bool false)) rfl rfl) ?_)
      refine rw_nil (hK19 _ _ ?_)
      refine hK17 _ _ ?_
      refine cw_ret ?_
      refine fin2 rfl rfl ?_
      have hno : ¬MakeOK (fvs hs) nq := by rintro ⟨h1, h2, h3⟩; first | contradiction | omega | (rw [← hmv] at h3; contradiction)
      have he_0 : fvs ([] : List Fl) = makeV (fvs hs) nq := (makeV_no hno).symm
      exact ⟨_, _, ([] : List Fl), tup2 (sl_as hO26 rfl) (bvf hno), own_as (xs := ([] : List Fl)) (hO26.less (by omega)) rfl, DX.nil, he_0, (by first | assumption | exact SzOK.nil), hc⟩
    · -- else
      cases h15
  · -- no
    replace hb14 := not_f hb14
    replace hb14 := dec_t hb14
    refine rw_cons (op_pv (w1y rfl rfl rfl rfl) rfl rfl (pv_move (v := (.slice Ahs nhs chs)) rfl rfl) ?_)
    refine rw_cons (op_pv (w1y rfl rfl rfl rfl) rfl rfl (pv_move (v := (.string nq)) rfl rfl) ?_)
    refine rw_cons (op_call (w1y rfl rfl rfl rfl) rfl rfl (rc_call C46 rfl rfl) (l21At_ok _ nhs _ hs nq _ (hRhs.more (by omega)) (hDhs.any (by omega)) (by first | assumption | exact SzOK.nil) (by omega)) ?_)
    rintro _ w29 ⟨rfl, hch30⟩
    have hsz31 := hch30.size
    replace hRhs := hRhs.ch0 hch30
    replace hDhs := hDhs.ch0 hch30
    replace hc := hc.step0 hch30
    have hnt32 := place_bds hs nq
    refine rw_cons (op_pv (w1y rfl rfl rfl rfl) rfl rfl (pv_geq rfl rfl rfl) ?_)
    refine rw_cons (op_pv (w0 rfl) rfl rfl (pv_pickF (v := (.bool (decide (0 ≤ (fplace (fvs hs) nq))))) rfl rfl rfl) ?_)
    refine rw_nil (hK10 _ _ ?_)
    refine hK8 _ _ ?_
    refine cw_cond rfl (fun h33 => ?_) (fun h33 => ?_)
    · -- then
      replace h33 := of_decide_eq_true h33
      refine cw_seq fun K34 hK35 => ?_
      refine cw_region fun K36 hK37 => ?_
      refine rw_cons (op_bslice [] Try.underlying24 T48 (w0 rfl) rfl rfl rfl rfl rfl (by simp [Value.cells]) (by decide) ?_)
      intro g39 w38 hg42 hg43 hK41 hch40
      have hO44 : Own encF 2 w38 w29.heap.size 48 (.slice (some ⟨g39, 0, none⟩) 0 0) ([] : List Fl) := Blk.own (xs := ([] : List Fl)) hK41 (by omega) rfl (by decide) rfl
      have hsz45 := hch40.size
      replace hRhs := hRhs.ch0 hch40
      replace hDhs := hDhs.ch0 hch40
      replace hc := hc.step0 hch40
      have hub46 := hO44.lt
      refine rw_cons (op_pv (w0 rfl) rfl rfl (pv_assign (v := (.slice (some ⟨g39, 0, none⟩) 0 0)) rfl rfl) ?_)
      refine rw_cons (op_pv (w0 rfl) rfl rfl (pv_assign (v := (.bool false)) rfl rfl) ?_)
      refine rw_nil (hK37 _ _ ?_)
      refine hK35 _ _ ?_
      refine cw_ret ?_
      refine fin2 rfl rfl ?_
      have hno : ¬MakeOK (fvs hs) nq := by rintro ⟨h1, h2, h3⟩; first | contradiction | omega | (rw [← hmv] at h3; contradiction)
      have he_0 : fvs ([] : List Fl) = makeV (fvs hs) nq := (makeV_no hno).symm
      exact ⟨_, _, ([] : List Fl), tup2 (sl_as hO44 rfl) (bvf hno), own_as (xs := ([] : List Fl)) (hO44.less (by omega)) rfl, DX.nil, he_0, (by first | assumption | exact SzOK.nil), hc⟩
    · -- else
      replace h33 := of_decide_eq_false h33
      refine cw_skip ?_
      refine hK6 _ _ ?_
      refine cw_seq fun K47 hK48 => ?_
      have hn8 : nhs ≤ 8 := by have := ‹FOK (fvs hs)›.len; rw [fvs_len] at this; omega
      have hnn : ∀ j, j < nhs → (el (fvs hs) j).1 ≠ nq := fun j hj => fplace_none (by omega) j (by rw [fvs_len]; omega)
      refine cw_region fun K49 hK50 => ?_
      refine rw_cons (op_pv (w0 rfl) rfl rfl (pv_move (v := (.slice Ahs nhs chs)) rfl rfl) ?_)
      refine rw_cons (op_call (w0 rfl) rfl rfl (rc_call C47 rfl rfl) (l21Copy_ok _ nhs _ hs _ (hRhs.more (by omega)) (hDhs.any (by omega)) (by first | assumption | exact SzOK.nil) (by omega)) ?_)
      rintro _ w51 ⟨A53, c54, hs55, rfl, hO56, hDO57, hfe58, hZ59, hch52⟩
      have hsz60 := hch52.size
      replace hRhs := hRhs.ch0 hch52
      replace hDhs := hDhs.ch0 hch52
      replace hc := hc.step0 hch52
      have hub61 := hO56.lt
      have hcap62 : hs55.length ≤ c54 := by obtain ⟨_, _, hv, h1, _⟩ := hO56.form; injection hv with _ _ h3; omega
      have hfl63 : hs55.length = (fvs hs).length := by rw [← hfe58, fvs_len]
      try simp only [fvs_len, List.length_take, List.length_drop] at hfl63
      refine rw_cons (op_pv (w0 rfl) rfl rfl (pv_assign (v := (.slice A53 hs55.length c54)) rfl rfl) ?_)
      refine rw_nil (hK50 _ _ ?_)
      refine hK48 _ _ ?_
      refine cw_seq fun K64 hK65 => ?_
      refine cw_region fun K66 hK67 => ?_
      refine rw_cons (op_bslice [] Try.underlying24 T48 (w0 rfl) rfl rfl rfl rfl rfl (by simp [Value.cells]) (by decide) ?_)
      intro g69 w68 hg72 hg73 hK71 hch70
      have hO74 : Own encF 2 w68 w51.heap.size 48 (.slice (some ⟨g69, 0, none⟩) 0 0) ([] : List Fl) := Blk.own (xs := ([] : List Fl)) hK71 (by omega) rfl (by decide) rfl
      have hsz75 := hch70.size
      replace hRhs := hRhs.ch0 hch70
      replace hDhs := hDhs.ch0 hch70
      replace hO56 := hO56.ch0 hch70
      replace hDO57 := hDO57.ch0 hch70
      replace hc := hc.step0 hch70
      have hub76 := hO74.lt
      have hdj77 : ∀ s ∈ obl (.slice A53 hs55.length c54), s ∉ obl (.slice (some ⟨g69, 0, none⟩) 0 0) := fun s hs hs2 => by first | (have h1 := hub61 s hs; have h2 := hO74.off s hs2; omega) | (simp [obl, Value.ownBlock] at hs; done) | (simp [obl, Value.ownBlock] at hs2; done) | (have h1 := hub61 s hs; simp [obl, Value.ownBlock] at hs2; omega)
      refine rw_cons (op_pv (w0 rfl) rfl rfl (pv_assign (v := (.slice (some ⟨g69, 0, none⟩) 0 0)) rfl rfl) ?_)
      refine rw_nil (hK67 _ _ ?_)
      refine hK65 _ _ ?_
      refine cw_seq fun K78 hK79 => ?_
      refine cw_region fun K80 hK81 => ?_
      refine rw_cons (op_pv (w0 rfl) rfl rfl (pv_assign (v := (.bool false)) rfl rfl) ?_)
      refine rw_nil (hK81 _ _ ?_)
      refine hK79 _ _ ?_
      refine cw_seq fun K82 hK83 => ?_
      refine cw_seq fun K84 hK85 => ?_
      refine cw_region fun K86 hK87 => ?_
      refine rw_cons (op_pv (w0 rfl) rfl rfl (pv_assign (v := (.int .i64 0)) rfl rfl) ?_)
      refine rw_nil (hK87 _ _ ?_)
      refine hK85 _ _ ?_
      refine cw_block ?_
      refine cw_loop (σ := Nat × Bool × (Option Addr) × Nat × (List Fl)) (fun ⟨i, dn, Ao, co, ys⟩ => [(7, (.slice Ao ys.length co)), (8, (.bool dn)), (9, (.int .i64 (i : Int))), (1, (.string nq)), (4, (.slice none 0 0)), (5, (.bool false)), (6, (.slice A53 hs55.length c54))]) (fun ⟨i, dn, Ao, co, ys⟩ W => (i ≤ nhs ∧ (dn = true ↔ ipos (fvs hs) nq < i) ∧ fvs ys = insTo (fvs hs) nq i ∧ SzOK ys ∧ ys.length ≤ 2 * i) ∧ RS encF 2 W w.heap.size Ahs nhs hs ∧ DX 0 w.heap.size ([]) W hs ∧ Own encF 2 W w29.heap.size 48 (.slice A53 hs55.length c54) hs55 ∧ DOw w29.heap.size w51.heap.size (obl (.slice A53 hs55.length c54)) 3 W hs55 ∧ Own encF 2 W w51.heap.size 48 (.slice Ao ys.length co) ys ∧ DXo w.heap.size (obl (.slice Ao ys.length co)) W ys ∧ Ch [] w W ∧ w29.heap.size ≤ W.heap.size ∧ w51.heap.size ≤ W.heap.size ∧ (∀ s ∈ obl (.slice A53 hs55.length c54), s ∉ obl (.slice Ao ys.length co))) (fun ⟨i, dn, Ao, co, ys⟩ => nhs - i) (0, false, (some ⟨g69, 0, none⟩), 0, []) ?_ ?_ ?_
      · exact ⟨rfl, rfl, rfl, rfl, rfl, rfl, rfl, trivial⟩
      · refine ⟨⟨Nat.zero_le _, by simp, by rw [insTo_zero]; rfl, SzOK.nil, by simp⟩, hRhs, hDhs, hO56, hDO57, hO74.less (by omega), ⟨0, by omega, DX.nil⟩, hc, (by omega), (by omega), (fun s hs hs2 => by first | (have h1 := hO56.off s hs; have h2 := hub76 s hs2; omega) | (have h1 := hO74.off s hs; have h2 := hub61 s hs2; omega) | (have h1 := hub61 s hs; have h2 := hO74.off s hs2; omega) | (have h1 := hub76 s hs; have h2 := hO56.off s hs2; omega) | (simp [obl, Value.ownBlock] at hs; done) | (simp [obl, Value.ownBlock] at hs2; done) | exact dj_as hdj77 s hs hs2 | exact dj_sw hdj77 s hs hs2)⟩
      · rintro ⟨i, dn, Ao, co, ys⟩ J95 w88 ⟨⟨hi, hdn, hyv, hZy, hyl⟩, hRhs, hDhs, hO56, hDO57, hO74, hD, hc, hmono89, hmono90, hdj91⟩ K92 hK93
        have hsz97 := hc.size
        obtain ⟨B1_98, hB199, hD⟩ := hD
        have hub100 := hO56.lt
        have hubOut := hO74.lt
        refine cw_seq fun K101 hK102 => ?_
        refine cw_seq fun K103 hK104 => ?_
        refine cw_region fun K105 hK106 => ?_
        refine rw_cons (op_pv (w0 rfl) rfl rfl (pv_move (v := (.int .i64 (i : Int))) rfl rfl) ?_)
        refine rw_cons (op_pv (w0 rfl) rfl rfl (pv_move (v := (.slice A53 hs55.length c54)) rfl rfl) ?_)
        refine rw_cons (op_pv (w0 rfl) rfl rfl (pv_len Try.underlying24 rfl rfl) ?_)
        refine rw_cons (op_pv (w0 rfl) rfl rfl (pv_lss rfl rfl rfl) ?_)
        refine rw_nil (hK106 _ _ ?_)
        refine hK104 _ _ ?_
        refine cw_cond rfl (fun h107 => ?_) (fun h107 => ?_)
        · -- then
          replace h107 := of_decide_eq_true h107
          refine cw_skip ?_
          refine hK102 _ _ ?_
          refine cw_seq fun K108 hK109 => ?_
          refine cw_block ?_
          refine cw_seq fun K110 hK111 => ?_
          refine cw_seq fun K112 hK113 => ?_
          refine cw_region fun K114 hK115 => ?_
          refine rw_cons (op_pv (w0 rfl) rfl rfl (pv_move (v := (.bool dn)) rfl rfl) ?_)
          refine rw_cons (op_pv (w0 rfl) rfl rfl (pv_not rfl rfl) ?_)
          refine rw_cons (op_pv (w0 rfl) rfl rfl (pv_move (v := (.bool (!dn))) rfl rfl) ?_)
          refine rw_split 31 rfl (fun hb116 => ?_) (fun hb116 => ?_)
          · -- yes
            replace hb116 := not_t hb116
            refine rw_cons (op_pv (w1y rfl rfl rfl rfl) rfl rfl (pv_move (v := (.slice A53 hs55.length c54)) rfl rfl) ?_)
            refine rw_cons (op_pv (w1y rfl rfl rfl rfl) rfl rfl (pv_move (v := (.int .i64 (i : Int))) rfl rfl) ?_)
            refine rw_cons (op_pv (w1y rfl rfl rfl rfl) rfl rfl (pv_idx Try.underlying24 T48 rfl rfl rfl ((hO56.rs (fun _ => rfl)).some (k := i) (by omega)) (by omega) (by omega)) ?_)
            refine rw_cons (op_pv (w1y rfl rfl rfl rfl) rfl rfl (pv_fld F48_0 rfl rfl) ?_)
            have hR117 : RS encI 1 w88 w51.heap.size (el hs55 i).A (el hs55 i).n (el hs55 i).ps := hDO57.rs (k := i) (by omega)
            have hln118 := hR117.len
            refine rw_cons (op_lv (w1y rfl rfl rfl rfl) rfl rfl (lv_load T9 rfl rfl ((hO56.rs (fun _ => rfl)).cellE (k := i) (j := 0) (by omega) rfl)) ?_)
            refine rw_cons (op_pv (w1y rfl rfl rfl rfl) rfl rfl (pv_move (v := (.string nq)) rfl rfl) ?_)
            refine rw_cons (op_pv (w1y rfl rfl rfl rfl) rfl rfl (pv_gtS rfl rfl rfl) ?_)
            refine rw_cons (op_pv (w0 rfl) rfl rfl (pv_pickT (v := (.bool (decide (slt (el hs55 i).nm nq = false ∧ (el hs55 i).nm ≠ nq)))) rfl rfl rfl) ?_)
            refine rw_nil (hK115 _ _ ?_)
            refine hK113 _ _ ?_
            refine cw_cond rfl (fun h119 => ?_) (fun h119 => ?_)
            · -- then
              replace h119 := of_decide_eq_true h119
              refine cw_seq fun K120 hK121 => ?_
              refine cw_region fun K122 hK123 => ?_
              refine rw_cons (op_pv (w0 rfl) rfl rfl (pv_move (v := (.slice Ao ys.length co)) rfl rfl) ?_)
              refine rw_cons (op_pv (w0 rfl) rfl rfl (pv_move (v := (.string nq)) rfl rfl) ?_)
              refine rw_cons (op_pv (w0 rfl) rfl rfl (pv_build rfl rfl (B48_0S _)) ?_)
              refine rw_cons (op_bslice [(.agg #[(.string nq), (.slice none 0 0)])] Try.underlying24 T48 (w0 rfl) rfl rfl rfl rfl rfl (by simp [Value.cells]) (by decide) ?_)
              intro g125 w124 hg128 hg129 hK127 hch126
              have hO130 : Own encF 2 w124 w88.heap.size 48 (.slice (some ⟨g125, 0, none⟩) 1 1) ([⟨nq, none, 0, 0, []⟩] : List Fl) := Blk.own (xs := ([⟨nq, none, 0, 0, []⟩] : List Fl)) hK127 (by omega) rfl (by decide) rfl
              have hsz131 := hch126.size
              replace hRhs := hRhs.ch0 hch126
              replace hDhs := hDhs.ch0 hch126
              replace hO56 := hO56.ch0 hch126
              replace hDO57 := hDO57.ch0 hch126
              replace hO74 := hO74.ch0 hch126
              replace hD := hD.ch0 hch126
              replace hR117 := hR117.ch0 hch126
              replace hc := hc.step0 hch126
              have hub132 := hO130.lt
              have hdj133 : ∀ s ∈ obl (.slice A53 hs55.length c54), s ∉ obl (.slice (some ⟨g125, 0, none⟩) 1 1) := fun s hs hs2 => by first | (have h1 := hub100 s hs; have h2 := hO130.off s hs2; omega) | (simp [obl, Value.ownBlock] at hs; done) | (simp [obl, Value.ownBlock] at hs2; done) | (have h1 := hub100 s hs; simp [obl, Value.ownBlock] at hs2; omega)
              have hdj134 : ∀ s ∈ obl (.slice Ao ys.length co), s ∉ obl (.slice (some ⟨g125, 0, none⟩) 1 1) := fun s hs hs2 => by first | (have h1 := hubOut s hs; have h2 := hO130.off s hs2; omega) | (simp [obl, Value.ownBlock] at hs; done) | (simp [obl, Value.ownBlock] at hs2; done) | (have h1 := hubOut s hs; simp [obl, Value.ownBlock] at hs2; omega)
              refine rw_cons (op_append Try.underlying24 T48 (fun _ => rfl) rfl (by decide) (fun _ => one_all rfl) (w0 rfl) rfl rfl rfl rfl rfl hO74 (hO130.rs (fun _ => rfl)) (by unfold maxLen; first | omega | (simp; omega)) (by first | omega | (simp; omega)) (by omega) ?_)
              rintro v135 w136 hO137 hch138 hs139
              have hl140 : (ys ++ ([⟨nq, none, 0, 0, []⟩] : List Fl)).length = ys.length + 1 := by first | (have hl0 := (hO130.rs (fun _ => rfl)).len; omega) | (have hl0 := (hO130.rs (fun _ => rfl)).len; simp only [List.length_append, List.length_cons, List.length_nil] at hl0 ⊢; omega) | (simp; omega; done) | simp | rfl
              clear hO130
              have hsz142 := hch138.size
              replace hRhs := hRhs.ch hch138 (hO74.off.le (by omega))
              replace hDhs := hDhs.ch hch138 (fun s hs => by first | exact .inr (.inl hs) | exact .inr (.inl (obl_any hs)) | exact .inr (.inr (Nat.le_trans (by omega) (hO74.off s hs))) | exact .inl (Nat.lt_of_lt_of_le (hubOut s hs) (by omega)))
              replace hO56 := hO56.ch hch138 (dj_as hdj91)
              replace hDO57 := hDO57.ch hch138 (fun s hs => by first | exact .inr (.inl hs) | exact .inr (.inl (obl_any hs)) | exact .inr (.inr (Nat.le_trans (by omega) (hO74.off s hs))) | exact .inl (Nat.lt_of_lt_of_le (hubOut s hs) (by omega)))
              replace hD := hD.ch hch138 (fun s hs => by first | exact .inr (.inl hs) | exact .inr (.inl (obl_any hs)) | exact .inr (.inr (Nat.le_trans (by omega) (hO74.off s hs))) | exact .inl (Nat.lt_of_lt_of_le (hubOut s hs) (by omega)))
              replace hR117 := hR117.ch hch138 (hO74.off.le (by omega))
              replace hc := (hO74.off.le (by omega)).step hc hch138
              have hub143 := hO137.lt
              obtain ⟨A144, c145, hv146, hcap147, hcap148⟩ := hO137.form; subst hv146
              have hdj141 : ∀ s ∈ obl (.slice A144 (ys ++ ([⟨nq, none, 0, 0, []⟩] : List Fl)).length c145), s ∉ obl (.slice A53 hs55.length c54) := dj_new hs139 (dj_sw hdj91) (fun s hs => by have := hub100 s hs; omega)
              replace hD : DX w.heap.size B1_98 (obl (.slice A144 (ys ++ ([⟨nq, none, 0, 0, []⟩] : List Fl)).length c145)) w136 (ys ++ ([⟨nq, none, 0, 0, []⟩] : List Fl)) := (hD.rex (Y := obl (.slice A144 (ys ++ ([⟨nq, none, 0, 0, []⟩] : List Fl)).length c145)) (fun s h => by rcases hs139 s h with h8 | h8; exact .inl h8; right; omega)).snocNil nq
              refine rw_cons (op_pv (w0 rfl) rfl rfl (pv_assign (v := (.slice A144 (ys ++ ([⟨nq, none, 0, 0, []⟩] : List Fl)).length c145)) rfl rfl) ?_)
              refine rw_nil (hK123 _ _ ?_)
              refine hK121 _ _ ?_
              refine cw_region fun K149 hK150 => ?_
              refine rw_cons (op_pv (w0 rfl) rfl rfl (pv_assign (v := (.bool true)) rfl rfl) ?_)
              refine rw_nil (hK150 _ _ ?_)
              refine hK111 _ _ ?_
              refine cw_region fun K151 hK152 => ?_
              refine rw_cons (op_pv (w0 rfl) rfl rfl (pv_move (v := (.slice A144 (ys ++ ([⟨nq, none, 0, 0, []⟩] : List Fl)).length c145)) rfl rfl) ?_)
              refine rw_cons (op_pv (w0 rfl) rfl rfl (pv_move (v := (.slice A53 hs55.length c54)) rfl rfl) ?_)
              refine rw_cons (op_pv (w0 rfl) rfl rfl (pv_move (v := (.int .i64 (i : Int))) rfl rfl) ?_)
              refine rw_cons (op_pv (w0 rfl) rfl rfl (pv_idx Try.underlying24 T48 rfl rfl rfl ((hO56.rs (fun _ => rfl)).some (k := i) (by omega)) (by omega) (by omega)) ?_)
              have hR153 : RS encI 1 w136 w51.heap.size (el hs55 i).A (el hs55 i).n (el hs55 i).ps := hDO57.rs (k := i) (by omega)
              have hln154 := hR153.len
              refine rw_cons (op_lv (w0 rfl) rfl rfl (lv_loadN T48 rfl rfl rfl (fun j v hv => (hO56.rs (fun _ => rfl)).cellE (k := i) (by omega) hv)) ?_)
              refine rw_cons (op_bslice [(.agg #[(.string (el hs55 i).nm), (.slice (el hs55 i).A (el hs55 i).n (el hs55 i).c)])] Try.underlying24 T48 (w0 rfl) rfl rfl rfl rfl rfl (by simp [Value.cells]) (by decide) ?_)
              intro g156 w155 hg159 hg160 hK158 hch157
              have hO161 : Own encF 2 w155 w136.heap.size 48 (.slice (some ⟨g156, 0, none⟩) 1 1) ([⟨(el hs55 i).nm, (el hs55 i).A, (el hs55 i).n, (el hs55 i).c, (el hs55 i).ps⟩] : List Fl) := Blk.own (xs := ([⟨(el hs55 i).nm, (el hs55 i).A, (el hs55 i).n, (el hs55 i).c, (el hs55 i).ps⟩] : List Fl)) hK158 (by omega) rfl (by decide) rfl
              have hsz162 := hch157.size
              replace hRhs := hRhs.ch0 hch157
              replace hDhs := hDhs.ch0 hch157
              replace hO56 := hO56.ch0 hch157
              replace hDO57 := hDO57.ch0 hch157
              replace hD := hD.ch0 hch157
              replace hR117 := hR117.ch0 hch157
              replace hO137 := hO137.ch0 hch157
              replace hR153 := hR153.ch0 hch157
              replace hc := hc.step0 hch157
              have hub163 := hO161.lt
              have hdj164 : ∀ s ∈ obl (.slice A53 hs55.length c54), s ∉ obl (.slice (some ⟨g156, 0, none⟩) 1 1) := fun s hs hs2 => by first | (have h1 := hub100 s hs; have h2 := hO161.off s hs2; omega) | (simp [obl, Value.ownBlock] at hs; done) | (simp [obl, Value.ownBlock] at hs2; done) | (have h1 := hub100 s hs; simp [obl, Value.ownBlock] at hs2; omega)
              have hdj165 : ∀ s ∈ obl (.slice A144 (ys ++ ([⟨nq, none, 0, 0, []⟩] : List Fl)).length c145), s ∉ obl (.slice (some ⟨g156, 0, none⟩) 1 1) := fun s hs hs2 => by first | (have h1 := hub143 s hs; have h2 := hO161.off s hs2; omega) | (simp [obl, Value.ownBlock] at hs; done) | (simp [obl, Value.ownBlock] at hs2; done) | (have h1 := hub143 s hs; simp [obl, Value.ownBlock] at hs2; omega)
              refine rw_cons (op_append Try.underlying24 T48 (fun _ => rfl) rfl (by decide) (fun _ => one_all rfl) (w0 rfl) rfl rfl rfl rfl rfl hO137 (hO161.rs (fun _ => rfl)) (by unfold maxLen; first | omega | (simp; omega)) (by first | omega | (simp; omega)) (by omega) ?_)
              rintro v166 w167 hO168 hch169 hs170
              have hl171 : ((ys ++ ([⟨nq, none, 0, 0, []⟩] : List Fl)) ++ ([⟨(el hs55 i).nm, (el hs55 i).A, (el hs55 i).n, (el hs55 i).c, (el hs55 i).ps⟩] : List Fl)).length = (ys ++ ([⟨nq, none, 0, 0, []⟩] : List Fl)).length + 1 := by first | (have hl0 := (hO161.rs (fun _ => rfl)).len; omega) | (have hl0 := (hO161.rs (fun _ => rfl)).len; simp only [List.length_append, List.length_cons, List.length_nil] at hl0 ⊢; omega) | (simp; omega; done) | simp | rfl
              clear hO161
              have hsz173 := hch169.size
              replace hRhs := hRhs.ch hch169 (hO137.off.le (by omega))
              replace hDhs := hDhs.ch hch169 (fun s hs => by first | exact .inr (.inl hs) | exact .inr (.inl (obl_any hs)) | exact .inr (.inr (Nat.le_trans (by omega) (hO137.off s hs))) | exact .inl (Nat.lt_of_lt_of_le (hub143 s hs) (by omega)))
              replace hO56 := hO56.ch hch169 (dj_sw hdj141)
              replace hDO57 := hDO57.ch hch169 (fun s hs => by first | exact .inr (.inl hs) | exact .inr (.inl (obl_any hs)) | exact .inr (.inr (Nat.le_trans (by omega) (hO137.off s hs))) | exact .inl (Nat.lt_of_lt_of_le (hub143 s hs) (by omega)))
              replace hD := hD.ch hch169 (fun s hs => by first | exact .inr (.inl hs) | exact .inr (.inl (obl_any hs)) | exact .inr (.inr (Nat.le_trans (by omega) (hO137.off s hs))) | exact .inl (Nat.lt_of_lt_of_le (hub143 s hs) (by omega)))
              replace hR117 := hR117.ch hch169 (hO137.off.le (by omega))
              replace hR153 := hR153.ch hch169 (hO137.off.le (by omega))
              replace hc := (hO137.off.le (by omega)).step hc hch169
              have hub174 := hO168.lt
              obtain ⟨A175, c176, hv177, hcap178, hcap179⟩ := hO168.form; subst hv177
              have hdj172 : ∀ s ∈ obl (.slice A175 ((ys ++ ([⟨nq, none, 0, 0, []⟩] : List Fl)) ++ ([⟨(el hs55 i).nm, (el hs55 i).A, (el hs55 i).n, (el hs55 i).c, (el hs55 i).ps⟩] : List Fl)).length c176), s ∉ obl (.slice A53 hs55.length c54) := dj_new hs170 (dj_as hdj141) (fun s hs => by have := hub100 s hs; omega)
              refine rw_cons (op_pv (w0 rfl) rfl rfl (pv_assign (v := (.slice A175 ((ys ++ ([⟨nq, none, 0, 0, []⟩] : List Fl)) ++ ([⟨(el hs55 i).nm, (el hs55 i).A, (el hs55 i).n, (el hs55 i).c, (el hs55 i).ps⟩] : List Fl)).length c176)) rfl rfl) ?_)
              refine rw_nil (hK152 _ _ ?_)
              refine hK109 _ _ ?_
              refine cw_region fun K180 hK181 => ?_
              refine rw_cons (op_pv (w0 rfl) rfl rfl (pv_move (v := (.int .i64 (i : Int))) rfl rfl) ?_)
              refine rw_cons (op_pv (w0 rfl) rfl rfl (pv_add rfl rfl rfl (by omega) (by omega)) ?_)
              refine rw_cons (op_pv (w0 rfl) rfl rfl (pv_assign (v := (.int .i64 ((i : Int) + 1))) rfl rfl) ?_)
              refine rw_nil (hK181 _ _ ?_)
              have hxo : ∀ s ∈ obl (.slice A175 ((ys ++ ([⟨nq, none, 0, 0, []⟩] : List Fl)) ++ ([⟨(el hs55 i).nm, (el hs55 i).A, (el hs55 i).n, (el hs55 i).c, (el hs55 i).ps⟩] : List Fl)).length c176), w51.heap.size ≤ s := fun s h => by have := hO168.off s h; omega
              have hD9 : DXo w.heap.size (obl (.slice A175 ((ys ++ ([⟨nq, none, 0, 0, []⟩] : List Fl)) ++ ([⟨(el hs55 i).nm, (el hs55 i).A, (el hs55 i).n, (el hs55 i).c, (el hs55 i).ps⟩] : List Fl)).length c176)) w167 ((ys ++ ([⟨nq, none, 0, 0, []⟩] : List Fl)) ++ ([⟨(el hs55 i).nm, (el hs55 i).A, (el hs55 i).n, (el hs55 i).c, (el hs55 i).ps⟩] : List Fl)) := ⟨w167.heap.size, Nat.le_refl _, (hD.rex (Y := obl (.slice A175 ((ys ++ ([⟨nq, none, 0, 0, []⟩] : List Fl)) ++ ([⟨(el hs55 i).nm, (el hs55 i).A, (el hs55 i).n, (el hs55 i).c, (el hs55 i).ps⟩] : List Fl)).length c176)) (fun s h => by rcases hs170 s h with h8 | h8; exact .inl h8; right; omega)).snocD hDO57 (k := i) (by omega) (by omega) hxo (by omega) (by omega)⟩
              refine hK93 _ _ (i + 1, true, A175, c176, ((ys ++ ([⟨nq, none, 0, 0, []⟩] : List Fl)) ++ ([⟨(el hs55 i).nm, (el hs55 i).A, (el hs55 i).n, (el hs55 i).c, (el hs55 i).ps⟩] : List Fl))) ⟨rfl, rfl, (iv (by omega)), rfl, rfl, rfl, rfl, trivial⟩ ⟨?_, hRhs, hDhs, hO56, hDO57, hO168, hD9, hc, (by omega), (by omega), (dj_sw hdj172)⟩ ?_
              · have hel : fv (el hs55 i) = el (fvs hs) i := by rw [← el_fvs (by omega), hfe58]
                have hil : i < (fvs hs).length := by rw [fvs_len]; omega
                have hev : fv (el hs i) = el (fvs hs) i := (el_fvs (by omega)).symm
                have henm : (el hs55 i).nm = (el (fvs hs) i).1 := congrArg Prod.fst hel
                have hip : ipos (fvs hs) nq = i := ipos_here (fun h => by have := hdn.2 h; simp_all) hil (by rw [← henm]; exact (by assumption : slt _ _ = false ∧ _).1)
                refine ⟨by omega, ⟨fun _ => by omega, fun _ => rfl⟩, ?_, (hZy.app (SzOK.nmOne (by omega))).app (by have := ‹SzOK hs55› i (by omega); exact SzOK.one this.1 this.2), by simp; omega⟩
                rw [fvs_app, fvs_app, insTo_here hil hip, hyv, ← hel]
                rfl
              · (first | omega | (simp only []; omega))
            · -- else
              replace h119 := of_decide_eq_false h119
              refine cw_skip ?_
              refine hK111 _ _ ?_
              refine cw_region fun K182 hK183 => ?_
              refine rw_cons (op_pv (w0 rfl) rfl rfl (pv_move (v := (.slice Ao ys.length co)) rfl rfl) ?_)
              refine rw_cons (op_pv (w0 rfl) rfl rfl (pv_move (v := (.slice A53 hs55.length c54)) rfl rfl) ?_)
              refine rw_cons (op_pv (w0 rfl) rfl rfl (pv_move (v := (.int .i64 (i : Int))) rfl rfl) ?_)
              refine rw_cons (op_pv (w0 rfl) rfl rfl (pv_idx Try.underlying24 T48 rfl rfl rfl ((hO56.rs (fun _ => rfl)).some (k := i) (by omega)) (by omega) (by omega)) ?_)
              have hR184 : RS encI 1 w88 w51.heap.size (el hs55 i).A (el hs55 i).n (el hs55 i).ps := hDO57.rs (k := i) (by omega)
              have hln185 := hR184.len
              refine rw_cons (op_lv (w0 rfl) rfl rfl (lv_loadN T48 rfl rfl rfl (fun j v hv => (hO56.rs (fun _ => rfl)).cellE (k := i) (by omega) hv)) ?_)
              refine rw_cons (op_bslice [(.agg #[(.string (el hs55 i).nm), (.slice (el hs55 i).A (el hs55 i).n (el hs55 i).c)])] Try.underlying24 T48 (w0 rfl) rfl rfl rfl rfl rfl (by simp [Value.cells]) (by decide) ?_)
              intro g187 w186 hg190 hg191 hK189 hch188
              have hO192 : Own encF 2 w186 w88.heap.size 48 (.slice (some ⟨g187, 0, none⟩) 1 1) ([⟨(el hs55 i).nm, (el hs55 i).A, (el hs55 i).n, (el hs55 i).c, (el hs55 i).ps⟩] : List Fl) := Blk.own (xs := ([⟨(el hs55 i).nm, (el hs55 i).A, (el hs55 i).n, (el hs55 i).c, (el hs55 i).ps⟩] : List Fl)) hK189 (by omega) rfl (by decide) rfl
              have hsz193 := hch188.size
              replace hRhs := hRhs.ch0 hch188
              replace hDhs := hDhs.ch0 hch188
              replace hO56 := hO56.ch0 hch188
              replace hDO57 := hDO57.ch0 hch188
              replace hO74 := hO74.ch0 hch188
              replace hD := hD.ch0 hch188
              replace hR117 := hR117.ch0 hch188
              replace hR184 := hR184.ch0 hch188
              replace hc := hc.step0 hch188
              have hub194 := hO192.lt
              have hdj195 : ∀ s ∈ obl (.slice A53 hs55.length c54), s ∉ obl (.slice (some ⟨g187, 0, none⟩) 1 1) := fun s hs hs2 => by first | (have h1 := hub100 s hs; have h2 := hO192.off s hs2; omega) | (simp [obl, Value.ownBlock] at hs; done) | (simp [obl, Value.ownBlock] at hs2; done) | (have h1 := hub100 s hs; simp [obl, Value.ownBlock] at hs2; omega)
              have hdj196 : ∀ s ∈ obl (.slice Ao ys.length co), s ∉ obl (.slice (some ⟨g187, 0, none⟩) 1 1) := fun s hs hs2 => by first | (have h1 := hubOut s hs; have h2 := hO192.off s hs2; omega) | (simp [obl, Value.ownBlock] at hs; done) | (simp [obl, Value.ownBlock] at hs2; done) | (have h1 := hubOut s hs; simp [obl, Value.ownBlock] at hs2; omega)
              refine rw_cons (op_append Try.underlying24 T48 (fun _ => rfl) rfl (by decide) (fun _ => one_all rfl) (w0 rfl) rfl rfl rfl rfl rfl hO74 (hO192.rs (fun _ => rfl)) (by unfold maxLen; first | omega | (simp; omega)) (by first | omega | (simp; omega)) (by omega) ?_)
              rintro v197 w198 hO199 hch200 hs201
              have hl202 : (ys ++ ([⟨(el hs55 i).nm, (el hs55 i).A, (el hs55 i).n, (el hs55 i).c, (el hs55 i).ps⟩] : List Fl)).length = ys.length + 1 := by first | (have hl0 := (hO192.rs (fun _ => rfl)).len; omega) | (have hl0 := (hO192.rs (fun _ => rfl)).len; simp only [List.length_append, List.length_cons, List.length_nil] at hl0 ⊢; omega) | (simp; omega; done) | simp | rfl
              clear hO192
              have hsz204 := hch200.size
              replace hRhs := hRhs.ch hch200 (hO74.off.le (by omega))
              replace hDhs := hDhs.ch hch200 (fun s hs => by first | exact .inr (.inl hs) | exact .inr (.inl (obl_any hs)) | exact .inr (.inr (Nat.le_trans (by omega) (hO74.off s hs))) | exact .inl (Nat.lt_of_lt_of_le (hubOut s hs) (by omega)))
              replace hO56 := hO56.ch hch200 (dj_as hdj91)
              replace hDO57 := hDO57.ch hch200 (fun s hs => by first | exact .inr (.inl hs) | exact .inr (.inl (obl_any hs)) | exact .inr (.inr (Nat.le_trans (by omega) (hO74.off s hs))) | exact .inl (Nat.lt_of_lt_of_le (hubOut s hs) (by omega)))
              replace hD := hD.ch hch200 (fun s hs => by first | exact .inr (.inl hs) | exact .inr (.inl (obl_any hs)) | exact .inr (.inr (Nat.le_trans (by omega) (hO74.off s hs))) | exact .inl (Nat.lt_of_lt_of_le (hubOut s hs) (by omega)))
              replace hR117 := hR117.ch hch200 (hO74.off.le (by omega))
              replace hR184 := hR184.ch hch200 (hO74.off.le (by omega))
              replace hc := (hO74.off.le (by omega)).step hc hch200
              have hub205 := hO199.lt
              obtain ⟨A206, c207, hv208, hcap209, hcap210⟩ := hO199.form; subst hv208
              have hdj203 : ∀ s ∈ obl (.slice A206 (ys ++ ([⟨(el hs55 i).nm, (el hs55 i).A, (el hs55 i).n, (el hs55 i).c, (el hs55 i).ps⟩] : List Fl)).length c207), s ∉ obl (.slice A53 hs55.length c54) := dj_new hs201 (dj_sw hdj91) (fun s hs => by have := hub100 s hs; omega)
              refine rw_cons (op_pv (w0 rfl) rfl rfl (pv_assign (v := (.slice A206 (ys ++ ([⟨(el hs55 i).nm, (el hs55 i).A, (el hs55 i).n, (el hs55 i).c, (el hs55 i).ps⟩] : List Fl)).length c207)) rfl rfl) ?_)
              refine rw_nil (hK183 _ _ ?_)
              refine hK109 _ _ ?_
              refine cw_region fun K211 hK212 => ?_
              refine rw_cons (op_pv (w0 rfl) rfl rfl (pv_move (v := (.int .i64 (i : Int))) rfl rfl) ?_)
              refine rw_cons (op_pv (w0 rfl) rfl rfl (pv_add rfl rfl rfl (by omega) (by omega)) ?_)
              refine rw_cons (op_pv (w0 rfl) rfl rfl (pv_assign (v := (.int .i64 ((i : Int) + 1))) rfl rfl) ?_)
              refine rw_nil (hK212 _ _ ?_)
              have hxo : ∀ s ∈ obl (.slice A206 (ys ++ ([⟨(el hs55 i).nm, (el hs55 i).A, (el hs55 i).n, (el hs55 i).c, (el hs55 i).ps⟩] : List Fl)).length c207), w51.heap.size ≤ s := fun s h => by have := hO199.off s h; omega
              have hD9 : DXo w.heap.size (obl (.slice A206 (ys ++ ([⟨(el hs55 i).nm, (el hs55 i).A, (el hs55 i).n, (el hs55 i).c, (el hs55 i).ps⟩] : List Fl)).length c207)) w198 (ys ++ ([⟨(el hs55 i).nm, (el hs55 i).A, (el hs55 i).n, (el hs55 i).c, (el hs55 i).ps⟩] : List Fl)) := ⟨w198.heap.size, Nat.le_refl _, (hD.rex (Y := obl (.slice A206 (ys ++ ([⟨(el hs55 i).nm, (el hs55 i).A, (el hs55 i).n, (el hs55 i).c, (el hs55 i).ps⟩] : List Fl)).length c207)) (fun s h => by rcases hs201 s h with h8 | h8; exact .inl h8; right; omega)).snocD hDO57 (k := i) (by omega) (by omega) hxo (by omega) (by omega)⟩
              refine hK93 _ _ (i + 1, dn, A206, c207, (ys ++ ([⟨(el hs55 i).nm, (el hs55 i).A, (el hs55 i).n, (el hs55 i).c, (el hs55 i).ps⟩] : List Fl))) ⟨rfl, rfl, (iv (by omega)), rfl, rfl, rfl, rfl, trivial⟩ ⟨?_, hRhs, hDhs, hO56, hDO57, hO199, hD9, hc, (by omega), (by omega), (dj_sw hdj203)⟩ ?_
              · have hel : fv (el hs55 i) = el (fvs hs) i := by rw [← el_fvs (by omega), hfe58]
                have hil : i < (fvs hs).length := by rw [fvs_len]; omega
                have hev : fv (el hs i) = el (fvs hs) i := (el_fvs (by omega)).symm
                have henm : (el hs55 i).nm = (el (fvs hs) i).1 := congrArg Prod.fst hel
                have hne : ipos (fvs hs) nq ≠ i := by
                  first
                    | exact ipos_past hil (by rw [← henm]; exact sm_lt (by assumption) (fun h => hnn i (by omega) (by rw [← h]; exact henm.symm)))
                    | (have := hdn.1 (by first | rfl | assumption); omega)
                refine ⟨by omega, ?_, ?_, hZy.app (by have := ‹SzOK hs55› i (by omega); exact SzOK.one this.1 this.2), by simp; omega⟩
                · constructor
                  · intro h; have := hdn.1 (by first | exact h | simp_all); omega
                  · intro h; have := hdn.2 (by omega); first | exact this | simp_all
                · rw [fvs_app, insTo_on hil hne, hyv, ← hel]
                  rfl
              · (first | omega | (simp only []; omega))
          · -- no
            replace hb116 := not_f hb116
            refine rw_cons (op_pass (w1n1 rfl rfl rfl rfl) rfl rfl ?_)
            refine rw_cons (op_pass (w1n1 rfl rfl rfl rfl) rfl rfl ?_)
            refine rw_cons (op_pass (w1n1 rfl rfl rfl rfl) rfl rfl ?_)
            refine rw_cons (op_pass (w1n1 rfl rfl rfl rfl) rfl rfl ?_)
            refine rw_cons (op_pass (w1n1 rfl rfl rfl rfl) rfl rfl ?_)
            refine rw_cons (op_pass (w1n1 rfl rfl rfl rfl) rfl rfl ?_)
            refine rw_cons (op_pass (w1n1 rfl rfl rfl rfl) rfl rfl ?_)
            refine rw_cons (op_pv (w0 rfl) rfl rfl (pv_pickF (v := (.bool false)) rfl rfl rfl) ?_)
            refine rw_nil (hK115 _ _ ?_)
            refine hK113 _ _ ?_
            refine cw_cond rfl (fun h213 => ?_) (fun h213 => ?_)
            · -- then
              cases h213
            · -- else
              clear h213
              refine cw_skip ?_
              refine hK111 _ _ ?_
              refine cw_region fun K214 hK215 => ?_
              refine rw_cons (op_pv (w0 rfl) rfl rfl (pv_move (v := (.slice Ao ys.length co)) rfl rfl) ?_)
              refine rw_cons (op_pv (w0 rfl) rfl rfl (pv_move (v := (.slice A53 hs55.length c54)) rfl rfl) ?_)
              refine rw_cons (op_pv (w0 rfl) rfl rfl (pv_move (v := (.int .i64 (i : Int))) rfl rfl) ?_)
              refine rw_cons (op_pv (w0 rfl) rfl rfl (pv_idx Try.underlying24 T48 rfl rfl rfl ((hO56.rs (fun _ => rfl)).some (k := i) (by omega)) (by omega) (by omega)) ?_)
              have hR216 : RS encI 1 w88 w51.heap.size (el hs55 i).A (el hs55 i).n (el hs55 i).ps := hDO57.rs (k := i) (by omega)
              have hln217 := hR216.len
              refine rw_cons (op_lv (w0 rfl) rfl rfl (lv_loadN T48 rfl rfl rfl (fun j v hv => (hO56.rs (fun _ => rfl)).cellE (k := i) (by omega) hv)) ?_)
              refine rw_cons (op_bslice [(.agg #[(.string (el hs55 i).nm), (.slice (el hs55 i).A (el hs55 i).n (el hs55 i).c)])] Try.underlying24 T48 (w0 rfl) rfl rfl rfl rfl rfl (by simp [Value.cells]) (by decide) ?_)
              intro g219 w218 hg222 hg223 hK221 hch220
              have hO224 : Own encF 2 w218 w88.heap.size 48 (.slice (some ⟨g219, 0, none⟩) 1 1) ([⟨(el hs55 i).nm, (el hs55 i).A, (el hs55 i).n, (el hs55 i).c, (el hs55 i).ps⟩] : List Fl) := Blk.own (xs := ([⟨(el hs55 i).nm, (el hs55 i).A, (el hs55 i).n, (el hs55 i).c, (el hs55 i).ps⟩] : List Fl)) hK221 (by omega) rfl (by decide) rfl
              have hsz225 := hch220.size
              replace hRhs := hRhs.ch0 hch220
              replace hDhs := hDhs.ch0 hch220
              replace hO56 := hO56.ch0 hch220
              replace hDO57 := hDO57.ch0 hch220
              replace hO74 := hO74.ch0 hch220
              replace hD := hD.ch0 hch220
              replace hR216 := hR216.ch0 hch220
              replace hc := hc.step0 hch220
              have hub226 := hO224.lt
              have hdj227 : ∀ s ∈ obl (.slice A53 hs55.length c54), s ∉ obl (.slice (some ⟨g219, 0, none⟩) 1 1) := fun s hs hs2 => by first | (have h1 := hub100 s hs; have h2 := hO224.off s hs2; omega) | (simp [obl, Value.ownBlock] at hs; done) | (simp [obl, Value.ownBlock] at hs2; done) | (have h1 := hub100 s hs; simp [obl, Value.ownBlock] at hs2; omega)
              have hdj228 : ∀ s ∈ obl (.slice Ao ys.length co), s ∉ obl (.slice (some ⟨g219, 0, none⟩) 1 1) := fun s hs hs2 => by first | (have h1 := hubOut s hs; have h2 := hO224.off s hs2; omega) | (simp [obl, Value.ownBlock] at hs; done) | (simp [obl, Value.ownBlock] at hs2; done) | (have h1 := hubOut s hs; simp [obl, Value.ownBlock] at hs2; omega)
              refine rw_cons (op_append Try.underlying24 T48 (fun _ => rfl) rfl (by decide) (fun _ => one_all rfl) (w0 rfl) rfl rfl rfl rfl rfl hO74 (hO224.rs (fun _ => rfl)) (by unfold maxLen; first | omega | (simp; omega)) (by first | omega | (simp; omega)) (by omega) ?_)
              rintro v229 w230 hO231 hch232 hs233
              have hl234 : (ys ++ ([⟨(el hs55 i).nm, (el hs55 i).A, (el hs55 i).n, (el hs55 i).c, (el hs55 i).ps⟩] : List Fl)).length = ys.length + 1 := by first | (have hl0 := (hO224.rs (fun _ => rfl)).len; omega) | (have hl0 := (hO224.rs (fun _ => rfl)).len; simp only [List.length_append, List.length_cons, List.length_nil] at hl0 ⊢; omega) | (simp; omega; done) | simp | rfl
              clear hO224
              have hsz236 := hch232.size
              replace hRhs := hRhs.ch hch232 (hO74.off.le (by omega))
              replace hDhs := hDhs.ch hch232 (fun s hs => by first | exact .inr (.inl hs) | exact .inr (.inl (obl_any hs)) | exact .inr (.inr (Nat.le_trans (by omega) (hO74.off s hs))) | exact .inl (Nat.lt_of_lt_of_le (hubOut s hs) (by omega)))
              replace hO56 := hO56.ch hch232 (dj_as hdj91)
              replace hDO57 := hDO57.ch hch232 (fun s hs => by first | exact .inr (.inl hs) | exact .inr (.inl (obl_any hs)) | exact .inr (.inr (Nat.le_trans (by omega) (hO74.off s hs))) | exact .inl (Nat.lt_of_lt_of_le (hubOut s hs) (by omega)))
              replace hD := hD.ch hch232 (fun s hs => by first | exact .inr (.inl hs) | exact .inr (.inl (obl_any hs)) | exact .inr (.inr (Nat.le_trans (by omega) (hO74.off s hs))) | exact .inl (Nat.lt_of_lt_of_le (hubOut s hs) (by omega)))
              replace hR216 := hR216.ch hch232 (hO74.off.le (by omega))
              replace hc := (hO74.off.le (by omega)).step hc hch232
              have hub237 := hO231.lt
              obtain ⟨A238, c239, hv240, hcap241, hcap242⟩ := hO231.form; subst hv240
              have hdj235 : ∀ s ∈ obl (.slice A238 (ys ++ ([⟨(el hs55 i).nm, (el hs55 i).A, (el hs55 i).n, (el hs55 i).c, (el hs55 i).ps⟩] : List Fl)).length c239), s ∉ obl (.slice A53 hs55.length c54) := dj_new hs233 (dj_sw hdj91) (fun s hs => by have := hub100 s hs; omega)
              refine rw_cons (op_pv (w0 rfl) rfl rfl (pv_assign (v := (.slice A238 (ys ++ ([⟨(el hs55 i).nm, (el hs55 i).A, (el hs55 i).n, (el hs55 i).c, (el hs55 i).ps⟩] : List Fl)).length c239)) rfl rfl) ?_)
              refine rw_nil (hK215 _ _ ?_)
              refine hK109 _ _ ?_
              refine cw_region fun K243 hK244 => ?_
              refine rw_cons (op_pv (w0 rfl) rfl rfl (pv_move (v := (.int .i64 (i : Int))) rfl rfl) ?_)
              refine rw_cons (op_pv (w0 rfl) rfl rfl (pv_add rfl rfl rfl (by omega) (by omega)) ?_)
              refine rw_cons (op_pv (w0 rfl) rfl rfl (pv_assign (v := (.int .i64 ((i : Int) + 1))) rfl rfl) ?_)
              refine rw_nil (hK244 _ _ ?_)
              have hxo : ∀ s ∈ obl (.slice A238 (ys ++ ([⟨(el hs55 i).nm, (el hs55 i).A, (el hs55 i).n, (el hs55 i).c, (el hs55 i).ps⟩] : List Fl)).length c239), w51.heap.size ≤ s := fun s h => by have := hO231.off s h; omega
              have hD9 : DXo w.heap.size (obl (.slice A238 (ys ++ ([⟨(el hs55 i).nm, (el hs55 i).A, (el hs55 i).n, (el hs55 i).c, (el hs55 i).ps⟩] : List Fl)).length c239)) w230 (ys ++ ([⟨(el hs55 i).nm, (el hs55 i).A, (el hs55 i).n, (el hs55 i).c, (el hs55 i).ps⟩] : List Fl)) := ⟨w230.heap.size, Nat.le_refl _, (hD.rex (Y := obl (.slice A238 (ys ++ ([⟨(el hs55 i).nm, (el hs55 i).A, (el hs55 i).n, (el hs55 i).c, (el hs55 i).ps⟩] : List Fl)).length c239)) (fun s h => by rcases hs233 s h with h8 | h8; exact .inl h8; right; omega)).snocD hDO57 (k := i) (by omega) (by omega) hxo (by omega) (by omega)⟩
              refine hK93 _ _ (i + 1, dn, A238, c239, (ys ++ ([⟨(el hs55 i).nm, (el hs55 i).A, (el hs55 i).n, (el hs55 i).c, (el hs55 i).ps⟩] : List Fl))) ⟨rfl, rfl, (iv (by omega)), rfl, rfl, rfl, rfl, trivial⟩ ⟨?_, hRhs, hDhs, hO56, hDO57, hO231, hD9, hc, (by omega), (by omega), (dj_sw hdj235)⟩ ?_
              · have hel : fv (el hs55 i) = el (fvs hs) i := by rw [← el_fvs (by omega), hfe58]
                have hil : i < (fvs hs).length := by rw [fvs_len]; omega
                have hev : fv (el hs i) = el (fvs hs) i := (el_fvs (by omega)).symm
                have henm : (el hs55 i).nm = (el (fvs hs) i).1 := congrArg Prod.fst hel
                have hne : ipos (fvs hs) nq ≠ i := by
                  first
                    | exact ipos_past hil (by rw [← henm]; exact sm_lt (by assumption) (fun h => hnn i (by omega) (by rw [← h]; exact henm.symm)))
                    | (have := hdn.1 (by first | rfl | assumption); omega)
                refine ⟨by omega, ?_, ?_, hZy.app (by have := ‹SzOK hs55› i (by omega); exact SzOK.one this.1 this.2), by simp; omega⟩
                · constructor
                  · intro h; have := hdn.1 (by first | exact h | simp_all); omega
                  · intro h; have := hdn.2 (by omega); first | exact this | simp_all
                · rw [fvs_app, insTo_on hil hne, hyv, ← hel]
                  rfl
              · (first | omega | (simp only []; omega))
        · -- else
          replace h107 := of_decide_eq_false h107
          refine cw_exit ?_
          refine hK83 _ _ ?_
          refine cw_seq fun K245 hK246 => ?_
          refine cw_seq fun K247 hK248 => ?_
          refine cw_region fun K249 hK250 => ?_
          refine rw_cons (op_pv (w0 rfl) rfl rfl (pv_move (v := (.bool dn)) rfl rfl) ?_)
          refine rw_cons (op_pv (w0 rfl) rfl rfl (pv_not rfl rfl) ?_)
          refine rw_nil (hK250 _ _ ?_)
          refine hK248 _ _ ?_
          refine cw_cond rfl (fun h251 => ?_) (fun h251 => ?_)
          · -- then
            replace h251 := not_t h251
            refine cw_region fun K252 hK253 => ?_
            refine rw_cons (op_pv (w0 rfl) rfl rfl (pv_move (v := (.slice Ao ys.length co)) rfl rfl) ?_)
            refine rw_cons (op_pv (w0 rfl) rfl rfl (pv_move (v := (.string nq)) rfl rfl) ?_)
            refine rw_cons (op_pv (w0 rfl) rfl rfl (pv_build rfl rfl (B48_0S _)) ?_)
            refine rw_cons (op_bslice [(.agg #[(.string nq), (.slice none 0 0)])] Try.underlying24 T48 (w0 rfl) rfl rfl rfl rfl rfl (by simp [Value.cells]) (by decide) ?_)
            intro g255 w254 hg258 hg259 hK257 hch256
            have hO260 : Own encF 2 w254 w88.heap.size 48 (.slice (some ⟨g255, 0, none⟩) 1 1) ([⟨nq, none, 0, 0, []⟩] : List Fl) := Blk.own (xs := ([⟨nq, none, 0, 0, []⟩] : List Fl)) hK257 (by omega) rfl (by decide) rfl
            have hsz261 := hch256.size
            replace hRhs := hRhs.ch0 hch256
            replace hDhs := hDhs.ch0 hch256
            replace hO56 := hO56.ch0 hch256
            replace hDO57 := hDO57.ch0 hch256
            replace hO74 := hO74.ch0 hch256
            replace hD := hD.ch0 hch256
            replace hc := hc.step0 hch256
            have hub262 := hO260.lt
            have hdj263 : ∀ s ∈ obl (.slice A53 hs55.length c54), s ∉ obl (.slice (some ⟨g255, 0, none⟩) 1 1) := fun s hs hs2 => by first | (have h1 := hub100 s hs; have h2 := hO260.off s hs2; omega) | (simp [obl, Value.ownBlock] at hs; done) | (simp [obl, Value.ownBlock] at hs2; done) | (have h1 := hub100 s hs; simp [obl, Value.ownBlock] at hs2; omega)
            have hdj264 : ∀ s ∈ obl (.slice Ao ys.length co), s ∉ obl (.slice (some ⟨g255, 0, none⟩) 1 1) := fun s hs hs2 => by first | (have h1 := hubOut s hs; have h2 := hO260.off s hs2; omega) | (simp [obl, Value.ownBlock] at hs; done) | (simp [obl, Value.ownBlock] at hs2; done) | (have h1 := hubOut s hs; simp [obl, Value.ownBlock] at hs2; omega)
            refine rw_cons (op_append Try.underlying24 T48 (fun _ => rfl) rfl (by decide) (fun _ => one_all rfl) (w0 rfl) rfl rfl rfl rfl rfl hO74 (hO260.rs (fun _ => rfl)) (by unfold maxLen; first | omega | (simp; omega)) (by first | omega | (simp; omega)) (by omega) ?_)
            rintro v265 w266 hO267 hch268 hs269
            have hl270 : (ys ++ ([⟨nq, none, 0, 0, []⟩] : List Fl)).length = ys.length + 1 := by first | (have hl0 := (hO260.rs (fun _ => rfl)).len; omega) | (have hl0 := (hO260.rs (fun _ => rfl)).len; simp only [List.length_append, List.length_cons, List.length_nil] at hl0 ⊢; omega) | (simp; omega; done) | simp | rfl
            clear hO260
            have hsz272 := hch268.size
            replace hRhs := hRhs.ch hch268 (hO74.off.le (by omega))
            replace hDhs := hDhs.ch hch268 (fun s hs => by first | exact .inr (.inl hs) | exact .inr (.inl (obl_any hs)) | exact .inr (.inr (Nat.le_trans (by omega) (hO74.off s hs))) | exact .inl (Nat.lt_of_lt_of_le (hubOut s hs) (by omega)))
            replace hO56 := hO56.ch hch268 (dj_as hdj91)
            replace hDO57 := hDO57.ch hch268 (fun s hs => by first | exact .inr (.inl hs) | exact .inr (.inl (obl_any hs)) | exact .inr (.inr (Nat.le_trans (by omega) (hO74.off s hs))) | exact .inl (Nat.lt_of_lt_of_le (hubOut s hs) (by omega)))
            replace hD := hD.ch hch268 (fun s hs => by first | exact .inr (.inl hs) | exact .inr (.inl (obl_any hs)) | exact .inr (.inr (Nat.le_trans (by omega) (hO74.off s hs))) | exact .inl (Nat.lt_of_lt_of_le (hubOut s hs) (by omega)))
            replace hc := (hO74.off.le (by omega)).step hc hch268
            have hub273 := hO267.lt
            obtain ⟨A274, c275, hv276, hcap277, hcap278⟩ := hO267.form; subst hv276
            have hdj271 : ∀ s ∈ obl (.slice A274 (ys ++ ([⟨nq, none, 0, 0, []⟩] : List Fl)).length c275), s ∉ obl (.slice A53 hs55.length c54) := dj_new hs269 (dj_sw hdj91) (fun s hs => by have := hub100 s hs; omega)
            have hDO279 : DX w.heap.size B1_98 (obl (.slice A274 (ys ++ ([⟨nq, none, 0, 0, []⟩] : List Fl)).length c275)) w266 (ys ++ ([⟨nq, none, 0, 0, []⟩] : List Fl)) := (hD.rex (Y := obl (.slice A274 (ys ++ ([⟨nq, none, 0, 0, []⟩] : List Fl)).length c275)) (fun s h => by rcases hs269 s h with h8 | h8; exact .inl h8; right; omega)).snocNil nq
            have hZ280 : SzOK (ys ++ ([⟨nq, none, 0, 0, []⟩] : List Fl)) := SzOK.app (by assumption) (SzOK.nmOne (by omega))
            refine rw_cons (op_pv (w0 rfl) rfl rfl (pv_assign (v := (.slice A274 (ys ++ ([⟨nq, none, 0, 0, []⟩] : List Fl)).length c275)) rfl rfl) ?_)
            refine rw_nil (hK253 _ _ ?_)
            refine hK246 _ _ ?_
            refine cw_seq fun K281 hK282 => ?_
            refine cw_seq fun K283 hK284 => ?_
            have hin : i = (fvs hs).length := by rw [fvs_len]; omega
            have hmv : fvs (ys ++ ([⟨nq, none, 0, 0, []⟩] : List Fl)) = insF (fvs hs) nq := by rw [fvs_app, hyv, hin]; exact insTo_end (fun h => by have := hdn.2 (by omega); simp_all)
            refine cw_region fun K285 hK286 => ?_
            refine rw_cons (op_pv (w0 rfl) rfl rfl (pv_move (v := (.slice A274 (ys ++ ([⟨nq, none, 0, 0, []⟩] : List Fl)).length c275)) rfl rfl) ?_)
            refine rw_cons (op_call (w0 rfl) rfl rfl (rc_call C32 rfl rfl) (FilesValid_s _ (ys ++ ([⟨nq, none, 0, 0, []⟩] : List Fl)).length _ (ys ++ ([⟨nq, none, 0, 0, []⟩] : List Fl)) _ (hO267.rs (fun _ => rfl)) (hDO279.any (by omega)) (by first | assumption | exact SzOK.nil) (by omega) (by omega)) ?_)
            rintro _ w287 ⟨rfl, hch288⟩
            have hsz289 := hch288.size
            replace hRhs := hRhs.ch0 hch288
            replace hDhs := hDhs.ch0 hch288
            replace hO56 := hO56.ch0 hch288
            replace hDO57 := hDO57.ch0 hch288
            replace hO267 := hO267.ch0 hch288
            replace hDO279 := hDO279.ch0 hch288
            replace hc := hc.step0 hch288
            refine rw_cons (op_pv (w0 rfl) rfl rfl (pv_not rfl rfl) ?_)
            refine rw_nil (hK286 _ _ ?_)
            refine hK284 _ _ ?_
            refine cw_cond rfl (fun h290 => ?_) (fun h290 => ?_)
            · -- then
              replace h290 := not_t h290
              replace h290 := dec_f h290
              refine cw_seq fun K291 hK292 => ?_
              refine cw_region fun K293 hK294 => ?_
              refine rw_cons (op_bslice [] Try.underlying24 T48 (w0 rfl) rfl rfl rfl rfl rfl (by simp [Value.cells]) (by decide) ?_)
              intro g296 w295 hg299 hg300 hK298 hch297
              have hO301 : Own encF 2 w295 w287.heap.size 48 (.slice (some ⟨g296, 0, none⟩) 0 0) ([] : List Fl) := Blk.own (xs := ([] : List Fl)) hK298 (by omega) rfl (by decide) rfl
              have hsz302 := hch297.size
              replace hRhs := hRhs.ch0 hch297
              replace hDhs := hDhs.ch0 hch297
              replace hO56 := hO56.ch0 hch297
              replace hDO57 := hDO57.ch0 hch297
              replace hO267 := hO267.ch0 hch297
              replace hDO279 := hDO279.ch0 hch297
              replace hc := hc.step0 hch297
              have hub303 := hO301.lt
              have hdj304 : ∀ s ∈ obl (.slice A53 hs55.length c54), s ∉ obl (.slice (some ⟨g296, 0, none⟩) 0 0) := fun s hs hs2 => by first | (have h1 := hub100 s hs; have h2 := hO301.off s hs2; omega) | (simp [obl, Value.ownBlock] at hs; done) | (simp [obl, Value.ownBlock] at hs2; done) | (have h1 := hub100 s hs; simp [obl, Value.ownBlock] at hs2; omega)
              have hdj305 : ∀ s ∈ obl (.slice A274 (ys ++ ([⟨nq, none, 0, 0, []⟩] : List Fl)).length c275), s ∉ obl (.slice (some ⟨g296, 0, none⟩) 0 0) := fun s hs hs2 => by first | (have h1 := hub273 s hs; have h2 := hO301.off s hs2; omega) | (simp [obl, Value.ownBlock] at hs; done) | (simp [obl, Value.ownBlock] at hs2; done) | (have h1 := hub273 s hs; simp [obl, Value.ownBlock] at hs2; omega)
              refine rw_cons (op_pv (w0 rfl) rfl rfl (pv_assign (v := (.slice (some ⟨g296, 0, none⟩) 0 0)) rfl rfl) ?_)
              refine rw_cons (op_pv (w0 rfl) rfl rfl (pv_assign (v := (.bool false)) rfl rfl) ?_)
              refine rw_nil (hK294 _ _ ?_)
              refine hK292 _ _ ?_
              refine cw_ret ?_
              refine fin2 rfl rfl ?_
              have hno : ¬MakeOK (fvs hs) nq := by rintro ⟨h1, h2, h3⟩; first | contradiction | omega | (rw [← hmv] at h3; contradiction)
              have he_0 : fvs ([] : List Fl) = makeV (fvs hs) nq := (makeV_no hno).symm
              exact ⟨_, _, ([] : List Fl), tup2 (sl_as hO301 rfl) (bvf hno), own_as (xs := ([] : List Fl)) (hO301.less (by omega)) rfl, DX.nil, he_0, (by first | assumption | exact SzOK.nil), hc⟩
            · -- else
              replace h290 := not_f h290
              replace h290 := dec_t h290
              refine cw_skip ?_
              refine hK282 _ _ ?_
              refine cw_seq fun K306 hK307 => ?_
              refine cw_region fun K308 hK309 => ?_
              refine rw_cons (op_pv (w0 rfl) rfl rfl (pv_move (v := (.slice A274 (ys ++ ([⟨nq, none, 0, 0, []⟩] : List Fl)).length c275)) rfl rfl) ?_)
              refine rw_cons (op_pv (w0 rfl) rfl rfl (pv_assign (v := (.slice A274 (ys ++ ([⟨nq, none, 0, 0, []⟩] : List Fl)).length c275)) rfl rfl) ?_)
              refine rw_cons (op_pv (w0 rfl) rfl rfl (pv_assign (v := (.bool true)) rfl rfl) ?_)
              refine rw_nil (hK309 _ _ ?_)
              refine hK307 _ _ ?_
              refine cw_ret ?_
              refine fin2 rfl rfl ?_
              have hyes : MakeOK (fvs hs) nq := ⟨by assumption, by omega, by rw [← hmv]; assumption⟩
              have he_0 : fvs (ys ++ ([⟨nq, none, 0, 0, []⟩] : List Fl)) = makeV (fvs hs) nq := by rw [makeV_yes hyes, ← hmv]
              exact ⟨_, _, (ys ++ ([⟨nq, none, 0, 0, []⟩] : List Fl)), tup2 (sl_as hO267 rfl) (bvt hyes), own_as (xs := (ys ++ ([⟨nq, none, 0, 0, []⟩] : List Fl))) (hO267.less (by omega)) rfl, ((hDO279.less (by omega)).bare (by omega)), he_0, (by first | assumption | exact SzOK.nil), hc⟩
          · -- else
            replace h251 := not_f h251
            refine cw_skip ?_
            refine hK246 _ _ ?_
            refine cw_seq fun K310 hK311 => ?_
            refine cw_seq fun K312 hK313 => ?_
            have hin : i = (fvs hs).length := by rw [fvs_len]; omega
            have hmv : fvs ys = insF (fvs hs) nq := by rw [hyv, hin]; exact insTo_all (by have := hdn.1 (by first | rfl | assumption); omega)
            refine cw_region fun K314 hK315 => ?_
            refine rw_cons (op_pv (w0 rfl) rfl rfl (pv_move (v := (.slice Ao ys.length co)) rfl rfl) ?_)
            refine rw_cons (op_call (w0 rfl) rfl rfl (rc_call C32 rfl rfl) (FilesValid_s _ ys.length _ ys _ (hO74.rs (fun _ => rfl)) (hD.any (by omega)) (by first | assumption | exact SzOK.nil) (by omega) (by omega)) ?_)
            rintro _ w316 ⟨rfl, hch317⟩
            have hsz318 := hch317.size
            replace hRhs := hRhs.ch0 hch317
            replace hDhs := hDhs.ch0 hch317
            replace hO56 := hO56.ch0 hch317
            replace hDO57 := hDO57.ch0 hch317
            replace hO74 := hO74.ch0 hch317
            replace hD := hD.ch0 hch317
            replace hc := hc.step0 hch317
            refine rw_cons (op_pv (w0 rfl) rfl rfl (pv_not rfl rfl) ?_)
            refine rw_nil (hK315 _ _ ?_)
            refine hK313 _ _ ?_
            refine cw_cond rfl (fun h319 => ?_) (fun h319 => ?_)
            · -- then
              replace h319 := not_t h319
              replace h319 := dec_f h319
              refine cw_seq fun K320 hK321 => ?_
              refine cw_region fun K322 hK323 => ?_
              refine rw_cons (op_bslice [] Try.underlying24 T48 (w0 rfl) rfl rfl rfl rfl rfl (by simp [Value.cells]) (by decide) ?_)
              intro g325 w324 hg328 hg329 hK327 hch326
              have hO330 : Own encF 2 w324 w316.heap.size 48 (.slice (some ⟨g325, 0, none⟩) 0 0) ([] : List Fl) := Blk.own (xs := ([] : List Fl)) hK327 (by omega) rfl (by decide) rfl
              have hsz331 := hch326.size
              replace hRhs := hRhs.ch0 hch326
              replace hDhs := hDhs.ch0 hch326
              replace hO56 := hO56.ch0 hch326
              replace hDO57 := hDO57.ch0 hch326
              replace hO74 := hO74.ch0 hch326
              replace hD := hD.ch0 hch326
              replace hc := hc.step0 hch326
              have hub332 := hO330.lt
              have hdj333 : ∀ s ∈ obl (.slice A53 hs55.length c54), s ∉ obl (.slice (some ⟨g325, 0, none⟩) 0 0) := fun s hs hs2 => by first | (have h1 := hub100 s hs; have h2 := hO330.off s hs2; omega) | (simp [obl, Value.ownBlock] at hs; done) | (simp [obl, Value.ownBlock] at hs2; done) | (have h1 := hub100 s hs; simp [obl, Value.ownBlock] at hs2; omega)
              have hdj334 : ∀ s ∈ obl (.slice Ao ys.length co), s ∉ obl (.slice (some ⟨g325, 0, none⟩) 0 0) := fun s hs hs2 => by first | (have h1 := hubOut s hs; have h2 := hO330.off s hs2; omega) | (simp [obl, Value.ownBlock] at hs; done) | (simp [obl, Value.ownBlock] at hs2; done) | (have h1 := hubOut s hs; simp [obl, Value.ownBlock] at hs2; omega)
              refine rw_cons (op_pv (w0 rfl) rfl rfl (pv_assign (v := (.slice (some ⟨g325, 0, none⟩) 0 0)) rfl rfl) ?_)
              refine rw_cons (op_pv (w0 rfl) rfl rfl (pv_assign (v := (.bool false)) rfl rfl) ?_)
              refine rw_nil (hK323 _ _ ?_)
              refine hK321 _ _ ?_
              refine cw_ret ?_
              refine fin2 rfl rfl ?_
              have hno : ¬MakeOK (fvs hs) nq := by rintro ⟨h1, h2, h3⟩; first | contradiction | omega | (rw [← hmv] at h3; contradiction)
              have he_0 : fvs ([] : List Fl) = makeV (fvs hs) nq := (makeV_no hno).symm
              exact ⟨_, _, ([] : List Fl), tup2 (sl_as hO330 rfl) (bvf hno), own_as (xs := ([] : List Fl)) (hO330.less (by omega)) rfl, DX.nil, he_0, (by first | assumption | exact SzOK.nil), hc⟩
            · -- else
              replace h319 := not_f h319
              replace h319 := dec_t h319
              refine cw_skip ?_
              refine hK311 _ _ ?_
              refine cw_seq fun K335 hK336 => ?_
              refine cw_region fun K337 hK338 => ?_
              refine rw_cons (op_pv (w0 rfl) rfl rfl (pv_move (v := (.slice Ao ys.length co)) rfl rfl) ?_)
              refine rw_cons (op_pv (w0 rfl) rfl rfl (pv_assign (v := (.slice Ao ys.length co)) rfl rfl) ?_)
              refine rw_cons (op_pv (w0 rfl) rfl rfl (pv_assign (v := (.bool true)) rfl rfl) ?_)
              refine rw_nil (hK338 _ _ ?_)
              refine hK336 _ _ ?_
              refine cw_ret ?_
              refine fin2 rfl rfl ?_
              have hyes : MakeOK (fvs hs) nq := ⟨by assumption, by omega, by rw [← hmv]; assumption⟩
              have he_0 : fvs ys = makeV (fvs hs) nq := by rw [makeV_yes hyes, ← hmv]
              exact ⟨_, _, ys, tup2 (sl_as hO74 rfl) (bvt hyes), own_as (xs := ys) (hO74.less (by omega)) rfl, ((hD.less (by omega)).bare (by omega)), he_0, (by first | assumption | exact SzOK.nil), hc⟩
end Go.Proofs.Ythgnlljpjpklpaa

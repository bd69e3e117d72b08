/-
  The walk of impl.FileMake, written by program: each line names the law of one operation. Conditions: those of the theorem.
-/
import Derived.Test.YthgnlljpjpklpaaProg
import Derived.Test.YthgnlljpjpklpaaDeep
import Derived.Test.YthgnlljpjpklpaaFlaw
import Derived.Test.YthgnlljpjpklpaaFops
import Derived.Test.YthgnlljpjpklpaaFimplFilesValid
import Derived.Test.YthgnlljpjpklpaaFimplfilePlace
import Derived.Test.YthgnlljpjpklpaaFimplcopyFiles
import Derived.KernelRfl
namespace Go.Proofs.Ythgnlljpjpklpaa
open Go Go.RowKit
set_option linter.unusedVariables false
set_option linter.unusedSimpArgs false
namespace FileMake_iF
theorem T9 : TI Try.prog 9 false (.string { data := #[] }) 1 16 := TI.mk' Try.underlying9 rfl (by kernel_rfl)
theorem T48 : TI Try.prog 48 true (.agg #[.string { data := #[] }, .slice none 0 0]) 2 40 := TI.mk' Try.underlying48 rfl (by kernel_rfl)
theorem F48_0 : FldOK Try.prog 48 0 0 := ⟨_, _, 0, Try.underlying48, rfl, rfl, by kernel_rfl⟩
theorem C31 : Callable Try.prog 31 := ⟨_, Try.func31, by kernel_rfl, by kernel_rfl⟩
theorem C49 : Callable Try.prog 49 := ⟨_, Try.func49, by kernel_rfl, by kernel_rfl⟩
theorem C50 : Callable Try.prog 50 := ⟨_, Try.func50, by kernel_rfl, by kernel_rfl⟩
theorem B48_0S (a0 : ByteArray) (u : World) : (Instr.build 48 #[(0, .string a0)]).run Try.prog u = .ok (.agg #[.string a0, .slice none 0 0]) u := by kernel_rfl
end FileMake_iF
open FileMake_iF in
set_option maxHeartbeats 4000000 in
theorem FileMake_i (Ahs : Option Addr) (nhs chs : Nat) (hs : List Fl) (nq : ByteArray) (w : World) (hRhs : RS encF 2 w w.heap.size Ahs nhs hs) (hDhs : DX 0 w.heap.size [] w hs) (hZhs : SzOK hs) (hNhs : nhs ≤ 1099511627776) (hs9 : nq.size ≤ 1099511627776) (hcap : nhs ≤ chs) :
    Fn Try.prog 29 [(.slice Ahs nhs chs), (.string nq)] w fun v w' => ∃ A_0 c_0 h_0, v = .tuple #[.slice A_0 h_0.length c_0, .bool (dec (MakeOK (fvs hs) nq))] ∧ Own encF 2 w' w.heap.size 48 (.slice A_0 h_0.length c_0) h_0 ∧ DOw w.heap.size w'.heap.size (obl (.slice A_0 h_0.length c_0)) 3 w' h_0 ∧ fvs h_0 = makeV (fvs hs) nq ∧ SzOK h_0 ∧ Ch [] w w' := by
  have hlenhs := hRhs.len
  refine fn_of (n := 53) Try.func29 rfl rfl rfl rfl ?_
  have hc : Ch [] w w := Ch.refl _ _
  refine cw_seq fun K1 hK2 => ?_
  refine cw_region fun K3 hK4 => ?_
  refine rw_cons (op_pv (w0 rfl) rfl rfl (pv_assign (v := (.slice none 0 0)) rfl rfl) ?_)
  refine rw_cons (op_pv (w0 rfl) rfl rfl (pv_assign (v := (.bool false)) rfl rfl) ?_)
  refine rw_nil (hK4 _ _ ?_)
  refine hK2 _ _ ?_
  refine cw_seq fun K5 hK6 => ?_
  refine cw_seq fun K7 hK8 => ?_
  refine cw_region fun K9 hK10 => ?_
  refine rw_cons (op_pv (w0 rfl) rfl rfl (pv_move (v := (.slice Ahs nhs chs)) rfl rfl) ?_)
  refine rw_cons (op_call (w0 rfl) rfl rfl (rc_call C31 rfl rfl) (FilesValid_i _ nhs _ hs _ (hRhs.more (by omega)) (hDhs.any (by omega)) (by first | assumption | exact SzOK.nil) (by omega)) ?_)
  rintro _ w11 ⟨rfl, hch12⟩
  have hsz13 := hch12.size
  replace hRhs := hRhs.ch0 hch12
  replace hDhs := hDhs.ch0 hch12
  replace hc := hc.step0 hch12
  refine rw_cons (op_pv (w0 rfl) rfl rfl (pv_not rfl rfl) ?_)
  refine rw_cons (op_pv (w0 rfl) rfl rfl (pv_move (v := (.bool (!(dec (FOK (fvs hs)))))) rfl rfl) ?_)
  refine rw_split 11 rfl (fun hb14 => ?_) (fun hb14 => ?_)
  · -- yes
    replace hb14 := not_t hb14
    replace hb14 := dec_f hb14
    refine rw_cons (op_pass (w1n2 rfl rfl rfl rfl) rfl rfl ?_)
    refine rw_cons (op_pass (w1n2 rfl rfl rfl rfl) rfl rfl ?_)
    refine rw_cons (op_pass (w1n2 rfl rfl rfl rfl) rfl rfl ?_)
    refine rw_cons (op_pass (w1n2 rfl rfl rfl rfl) rfl rfl ?_)
    refine rw_cons (op_pv (w0 rfl) rfl rfl (pv_pickT (v := (.bool true)) rfl rfl rfl) ?_)
    refine rw_nil (hK10 _ _ ?_)
    refine hK8 _ _ ?_
    refine cw_cond rfl (fun h15 => ?_) (fun h15 => ?_)
    · -- then
      clear h15
      refine cw_seq fun K16 hK17 => ?_
      refine cw_region fun K18 hK19 => ?_
      refine rw_cons (op_bslice [] Try.underlying24 T48 (w0 rfl) rfl rfl rfl rfl rfl (by simp [Value.cells]) (by decide) ?_)
      intro g21 w20 hg24 hg25 hK23 hch22
      have hO26 : Own encF 2 w20 w11.heap.size 48 (.slice (some ⟨g21, 0, none⟩) 0 0) ([] : List Fl) := Blk.own (xs := ([] : List Fl)) hK23 (by omega) rfl (by decide) rfl
      have hsz27 := hch22.size
      replace hRhs := hRhs.ch0 hch22
      replace hDhs := hDhs.ch0 hch22
      replace hc := hc.step0 hch22
      have hub28 := hO26.lt
      refine rw_cons (op_pv (w0 rfl) rfl rfl (pv_assign (v := (.slice (some ⟨g21, 0, none⟩) 0 0)) rfl rfl) ?_)
      refine rw_cons (op_pv (w0 rfl) rfl rfl (pv_assign (v := (.bool false)) rfl rfl) ?_)
      refine rw_nil (hK19 _ _ ?_)
      refine hK17 _ _ ?_
      refine cw_ret ?_
      refine fin2 rfl rfl ?_
      have hno : ¬MakeOK (fvs hs) nq := by rintro ⟨h1, h2, h3⟩; first | contradiction | omega | (rw [← hmv] at h3; contradiction)
      have he_0 : fvs ([] : List Fl) = makeV (fvs hs) nq := (makeV_no hno).symm
      exact ⟨_, _, ([] : List Fl), tup2 (sl_as hO26 rfl) (bvf hno), own_as (xs := ([] : List Fl)) (hO26.less (by omega)) rfl, DOw.nil, he_0, (by first | assumption | exact SzOK.nil), hc⟩
    · -- else
      cases h15
  · -- no
    replace hb14 := not_f hb14
    replace hb14 := dec_t hb14
    refine rw_cons (op_pv (w1y rfl rfl rfl rfl) rfl rfl (pv_move (v := (.slice Ahs nhs chs)) rfl rfl) ?_)
    refine rw_cons (op_pv (w1y rfl rfl rfl rfl) rfl rfl (pv_move (v := (.string nq)) rfl rfl) ?_)
    refine rw_cons (op_call (w1y rfl rfl rfl rfl) rfl rfl (rc_call C49 rfl rfl) (filePlace_i _ nhs _ hs nq _ (hRhs.more (by omega)) (hDhs.any (by omega)) (by first | assumption | exact SzOK.nil) (by omega)) ?_)
    rintro _ w29 ⟨rfl, hch30⟩
    have hsz31 := hch30.size
    replace hRhs := hRhs.ch0 hch30
    replace hDhs := hDhs.ch0 hch30
    replace hc := hc.step0 hch30
    have hnt32 := place_bds hs nq
    refine rw_cons (op_pv (w1y rfl rfl rfl rfl) rfl rfl (pv_geq rfl rfl rfl) ?_)
    refine rw_cons (op_pv (w0 rfl) rfl rfl (pv_pickF (v := (.bool (decide (0 ≤ (fplace (fvs hs) nq))))) rfl rfl rfl) ?_)
    refine rw_nil (hK10 _ _ ?_)
    refine hK8 _ _ ?_
    refine cw_cond rfl (fun h33 => ?_) (fun h33 => ?_)
    · -- then
      replace h33 := of_decide_eq_true h33
      refine cw_seq fun K34 hK35 => ?_
      refine cw_region fun K36 hK37 => ?_
      refine rw_cons (op_bslice [] Try.underlying24 T48 (w0 rfl) rfl rfl rfl rfl rfl (by simp [Value.cells]) (by decide) ?_)
      intro g39 w38 hg42 hg43 hK41 hch40
      have hO44 : Own encF 2 w38 w29.heap.size 48 (.slice (some ⟨g39, 0, none⟩) 0 0) ([] : List Fl) := Blk.own (xs := ([] : List Fl)) hK41 (by omega) rfl (by decide) rfl
      have hsz45 := hch40.size
      replace hRhs := hRhs.ch0 hch40
      replace hDhs := hDhs.ch0 hch40
      replace hc := hc.step0 hch40
      have hub46 := hO44.lt
      refine rw_cons (op_pv (w0 rfl) rfl rfl (pv_assign (v := (.slice (some ⟨g39, 0, none⟩) 0 0)) rfl rfl) ?_)
      refine rw_cons (op_pv (w0 rfl) rfl rfl (pv_assign (v := (.bool false)) rfl rfl) ?_)
      refine rw_nil (hK37 _ _ ?_)
      refine hK35 _ _ ?_
      refine cw_ret ?_
      refine fin2 rfl rfl ?_
      have hno : ¬MakeOK (fvs hs) nq := by rintro ⟨h1, h2, h3⟩; first | contradiction | omega | (rw [← hmv] at h3; contradiction)
      have he_0 : fvs ([] : List Fl) = makeV (fvs hs) nq := (makeV_no hno).symm
      exact ⟨_, _, ([] : List Fl), tup2 (sl_as hO44 rfl) (bvf hno), own_as (xs := ([] : List Fl)) (hO44.less (by omega)) rfl, DOw.nil, he_0, (by first | assumption | exact SzOK.nil), hc⟩
    · -- else
      replace h33 := of_decide_eq_false h33
      refine cw_skip ?_
      refine hK6 _ _ ?_
      refine cw_seq fun K47 hK48 => ?_
      have hn8 : nhs ≤ 8 := by have := ‹FOK (fvs hs)›.len; rw [fvs_len] at this; omega
      refine cw_region fun K49 hK50 => ?_
      refine rw_cons (op_pv (w0 rfl) rfl rfl (pv_assign (v := (.int .i64 0)) rfl rfl) ?_)
      refine rw_nil (hK50 _ _ ?_)
      refine hK48 _ _ ?_
      refine cw_seq fun K51 hK52 => ?_
      refine cw_block ?_
      refine cw_loop (σ := Nat) (fun k => [(6, (.int .i64 (k : Int))), (0, (.slice Ahs nhs chs)), (1, (.string nq)), (4, (.slice none 0 0)), (5, (.bool false))]) (fun k W => (k ≤ nhs ∧ ∀ j, j < k → slt (el hs j).nm nq = true) ∧ RS encF 2 W w.heap.size Ahs nhs hs ∧ DX 0 w.heap.size ([]) W hs ∧ Ch [] w W) (fun k => nhs - k) 0 ?_ ?_ ?_
      · exact ⟨rfl, rfl, rfl, rfl, rfl, trivial⟩
      · refine ⟨⟨Nat.zero_le _, fun j hj => by omega⟩, hRhs, hDhs, hc⟩
      · rintro k J57 w53 ⟨⟨hk, hye⟩, hRhs, hDhs, hc⟩ K54 hK55
        have hsz59 := hc.size
        refine cw_seq fun K60 hK61 => ?_
        refine cw_seq fun K62 hK63 => ?_
        refine cw_region fun K64 hK65 => ?_
        refine rw_cons (op_pv (w0 rfl) rfl rfl (pv_move (v := (.int .i64 (k : Int))) rfl rfl) ?_)
        refine rw_cons (op_pv (w0 rfl) rfl rfl (pv_move (v := (.slice Ahs nhs chs)) rfl rfl) ?_)
        refine rw_cons (op_pv (w0 rfl) rfl rfl (pv_len Try.underlying24 rfl rfl) ?_)
        refine rw_cons (op_pv (w0 rfl) rfl rfl (pv_lss rfl rfl rfl) ?_)
        refine rw_cons (op_pv (w0 rfl) rfl rfl (pv_move (v := (.bool (decide ((k : Int) < (nhs : Int))))) rfl rfl) ?_)
        refine rw_split 22 rfl (fun hb66 => ?_) (fun hb66 => ?_)
        · -- yes
          replace hb66 := of_decide_eq_true hb66
          refine rw_cons (op_pv (w1y rfl rfl rfl rfl) rfl rfl (pv_move (v := (.slice Ahs nhs chs)) rfl rfl) ?_)
          refine rw_cons (op_pv (w1y rfl rfl rfl rfl) rfl rfl (pv_move (v := (.int .i64 (k : Int))) rfl rfl) ?_)
          refine rw_cons (op_pv (w1y rfl rfl rfl rfl) rfl rfl (pv_idx Try.underlying24 T48 rfl rfl rfl (hRhs.some (k := k) (by omega)) (by omega) (by omega)) ?_)
          refine rw_cons (op_pv (w1y rfl rfl rfl rfl) rfl rfl (pv_fld F48_0 rfl rfl) ?_)
          have hR67 : RS encI 1 w53 w.heap.size (el hs k).A (el hs k).n (el hs k).ps := hDhs.rs (k := k) (by omega)
          have hln68 := hR67.len
          refine rw_cons (op_lv (w1y rfl rfl rfl rfl) rfl rfl (lv_load T9 rfl rfl (hRhs.cellE (k := k) (j := 0) (by omega) rfl)) ?_)
          refine rw_cons (op_pv (w1y rfl rfl rfl rfl) rfl rfl (pv_move (v := (.string nq)) rfl rfl) ?_)
          refine rw_cons (op_pv (w1y rfl rfl rfl rfl) rfl rfl (pv_ltS rfl rfl rfl) ?_)
          refine rw_cons (op_pv (w0 rfl) rfl rfl (pv_pickT (v := (.bool (slt (el hs k).nm nq))) rfl rfl rfl) ?_)
          refine rw_nil (hK65 _ _ ?_)
          refine hK63 _ _ ?_
          refine cw_cond rfl (fun h69 => ?_) (fun h69 => ?_)
          · -- then
            refine cw_skip ?_
            refine hK61 _ _ ?_
            refine cw_block ?_
            refine cw_region fun K70 hK71 => ?_
            refine rw_cons (op_pv (w0 rfl) rfl rfl (pv_move (v := (.int .i64 (k : Int))) rfl rfl) ?_)
            refine rw_cons (op_pv (w0 rfl) rfl rfl (pv_add rfl rfl rfl (by omega) (by omega)) ?_)
            refine rw_cons (op_pv (w0 rfl) rfl rfl (pv_assign (v := (.int .i64 ((k : Int) + 1))) rfl rfl) ?_)
            refine rw_nil (hK71 _ _ ?_)
            refine hK55 _ _ (k + 1) ⟨(iv (by omega)), rfl, rfl, rfl, rfl, trivial⟩ ⟨?_, hRhs, hDhs, hc⟩ ?_
            · refine ⟨by omega, fun q hq => ?_⟩
              by_cases e : q = k
              · subst e; assumption
              · exact hye q (by omega)
            · (first | omega | (simp only []; omega))
          · -- else
            refine cw_exit ?_
            refine hK52 _ _ ?_
            refine cw_seq fun K72 hK73 => ?_
            refine cw_region fun K74 hK75 => ?_
            refine rw_cons (op_pv (w0 rfl) rfl rfl (pv_move (v := (.slice Ahs nhs chs)) rfl rfl) ?_)
            refine rw_cons (op_pv (w0 rfl) rfl rfl (pv_move (v := (.int .i64 (k : Int))) rfl rfl) ?_)
            refine rw_cons (op_pv (w0 rfl) rfl rfl (pv_upto Try.underlying24 T48 rfl rfl rfl (by omega) (by omega)) ?_)
            have hR76 : RS encF 2 w53 w.heap.size Ahs k (hs.take k) := (hRhs).upto (by omega)
            have hD77 : DX 0 w.heap.size ([]) w53 (hs.take k) := (hDhs).take k
            have hZ78 : SzOK (hs.take k) := SzOK.take (by assumption) k
            refine rw_cons (op_call (w0 rfl) rfl rfl (rc_call C50 rfl rfl) (copyFiles_ok _ k _ (hs.take k) _ (hR76.more (by omega)) (hD77.any (by omega)) (by first | assumption | exact SzOK.nil) (by omega)) ?_)
            rintro _ w79 ⟨A81, c82, hs83, rfl, hO84, hDO85, hfe86, hZ87, hch80⟩
            have hsz88 := hch80.size
            replace hRhs := hRhs.ch0 hch80
            replace hDhs := hDhs.ch0 hch80
            replace hR67 := hR67.ch0 hch80
            replace hR76 := hR76.ch0 hch80
            replace hD77 := hD77.ch0 hch80
            replace hc := hc.step0 hch80
            have hub89 := hO84.lt
            have hcap90 : hs83.length ≤ c82 := by obtain ⟨_, _, hv, h1, _⟩ := hO84.form; injection hv with _ _ h3; omega
            have hfl91 : hs83.length = (fvs (hs.take k)).length := by rw [← hfe86, fvs_len]
            try simp only [fvs_len, List.length_take, List.length_drop] at hfl91
            refine rw_cons (op_pv (w0 rfl) rfl rfl (pv_assign (v := (.slice A81 hs83.length c82)) rfl rfl) ?_)
            refine rw_nil (hK75 _ _ ?_)
            refine hK73 _ _ ?_
            refine cw_seq fun K92 hK93 => ?_
            refine cw_region fun K94 hK95 => ?_
            refine rw_cons (op_pv (w0 rfl) rfl rfl (pv_move (v := (.slice A81 hs83.length c82)) rfl rfl) ?_)
            refine rw_cons (op_pv (w0 rfl) rfl rfl (pv_move (v := (.string nq)) rfl rfl) ?_)
            refine rw_cons (op_pv (w0 rfl) rfl rfl (pv_build rfl rfl (B48_0S _)) ?_)
            refine rw_cons (op_bslice [(.agg #[(.string nq), (.slice none 0 0)])] Try.underlying24 T48 (w0 rfl) rfl rfl rfl rfl rfl (by simp [Value.cells]) (by decide) ?_)
            intro g97 w96 hg100 hg101 hK99 hch98
            have hO102 : Own encF 2 w96 w79.heap.size 48 (.slice (some ⟨g97, 0, none⟩) 1 1) ([⟨nq, none, 0, 0, []⟩] : List Fl) := Blk.own (xs := ([⟨nq, none, 0, 0, []⟩] : List Fl)) hK99 (by omega) rfl (by decide) rfl
            have hsz103 := hch98.size
            replace hRhs := hRhs.ch0 hch98
            replace hDhs := hDhs.ch0 hch98
            replace hR67 := hR67.ch0 hch98
            replace hR76 := hR76.ch0 hch98
            replace hD77 := hD77.ch0 hch98
            replace hO84 := hO84.ch0 hch98
            replace hDO85 := hDO85.ch0 hch98
            replace hc := hc.step0 hch98
            have hub104 := hO102.lt
            have hdj105 : ∀ s ∈ obl (.slice A81 hs83.length c82), s ∉ obl (.slice (some ⟨g97, 0, none⟩) 1 1) := fun s hs hs2 => by first | (have h1 := hub89 s hs; have h2 := hO102.off s hs2; omega) | (simp [obl, Value.ownBlock] at hs; done) | (simp [obl, Value.ownBlock] at hs2; done) | (have h1 := hub89 s hs; simp [obl, Value.ownBlock] at hs2; omega)
            refine rw_cons (op_append Try.underlying24 T48 (fun _ => rfl) rfl (by decide) (fun _ => one_all rfl) (w0 rfl) rfl rfl rfl rfl rfl hO84 (hO102.rs (fun _ => rfl)) (by unfold maxLen; first | omega | (simp; omega)) (by first | omega | (simp; omega)) (by omega) ?_)
            rintro v106 w107 hO108 hch109 hs110
            have hl111 : (hs83 ++ ([⟨nq, none, 0, 0, []⟩] : List Fl)).length = hs83.length + 1 := by first | (have hl0 := (hO102.rs (fun _ => rfl)).len; omega) | (have hl0 := (hO102.rs (fun _ => rfl)).len; simp only [List.length_append, List.length_cons, List.length_nil] at hl0 ⊢; omega) | (simp; omega; done) | simp | rfl
            clear hO102
            have hsz112 := hch109.size
            replace hRhs := hRhs.ch hch109 (hO84.off.le (by omega))
            replace hDhs := hDhs.ch hch109 (fun s hs => by first | exact .inr (.inl hs) | exact .inr (.inl (obl_any hs)) | exact .inr (.inr (Nat.le_trans (by omega) (hO84.off s hs))) | exact .inl (Nat.lt_of_lt_of_le (hub89 s hs) (by omega)))
            replace hR67 := hR67.ch hch109 (hO84.off.le (by omega))
            replace hR76 := hR76.ch hch109 (hO84.off.le (by omega))
            replace hD77 := hD77.ch hch109 (fun s hs => by first | exact .inr (.inl hs) | exact .inr (.inl (obl_any hs)) | exact .inr (.inr (Nat.le_trans (by omega) (hO84.off s hs))) | exact .inl (Nat.lt_of_lt_of_le (hub89 s hs) (by omega)))
            replace hDO85 := hDO85.ch hch109 (fun s hs => by first | exact .inr (.inl hs) | exact .inr (.inl (obl_any hs)) | exact .inr (.inr (Nat.le_trans (by omega) (hO84.off s hs))) | exact .inl (Nat.lt_of_lt_of_le (hub89 s hs) (by omega)))
            replace hc := (hO84.off.le (by omega)).step hc hch109
            have hub113 := hO108.lt
            obtain ⟨A114, c115, hv116, hcap117, hcap118⟩ := hO108.form; subst hv116
            have hDO119 : DOw w53.heap.size w79.heap.size (obl (.slice A114 (hs83 ++ ([⟨nq, none, 0, 0, []⟩] : List Fl)).length c115)) 3 w107 (hs83 ++ ([⟨nq, none, 0, 0, []⟩] : List Fl)) := (hDO85.rex2 (Y := obl (.slice A114 (hs83 ++ ([⟨nq, none, 0, 0, []⟩] : List Fl)).length c115)) (fun s h => by rcases hs110 s h with h8 | h8; exact .inr (.inl h8); right; right; omega)).snocNil _
            have hZ120 : SzOK (hs83 ++ ([⟨nq, none, 0, 0, []⟩] : List Fl)) := SzOK.app (by assumption) (SzOK.nmOne (by omega))
            refine rw_cons (op_pv (w0 rfl) rfl rfl (pv_assign (v := (.slice A114 (hs83 ++ ([⟨nq, none, 0, 0, []⟩] : List Fl)).length c115)) rfl rfl) ?_)
            refine rw_nil (hK95 _ _ ?_)
            refine hK93 _ _ ?_
            refine cw_seq fun K121 hK122 => ?_
            refine cw_region fun K123 hK124 => ?_
            refine rw_cons (op_pv (w0 rfl) rfl rfl (pv_move (v := (.slice A114 (hs83 ++ ([⟨nq, none, 0, 0, []⟩] : List Fl)).length c115)) rfl rfl) ?_)
            refine rw_cons (op_pv (w0 rfl) rfl rfl (pv_move (v := (.slice Ahs nhs chs)) rfl rfl) ?_)
            refine rw_cons (op_pv (w0 rfl) rfl rfl (pv_move (v := (.int .i64 (k : Int))) rfl rfl) ?_)
            refine rw_cons (op_pv (w0 rfl) rfl rfl (pv_from Try.underlying24 T48 rfl rfl rfl (by omega) (by omega)) ?_)
            have hR125 : RS encF 2 w107 w.heap.size (if chs = k then Ahs else (Ahs : Option Addr).map (·.add (k * 2))) (nhs - k) (hs.drop k) := (hRhs).from (by omega) (by omega)
            have hD126 : DX 0 w.heap.size ([]) w107 (hs.drop k) := (hDhs).drop k
            have hZ127 : SzOK (hs.drop k) := SzOK.drop (by assumption) k
            refine rw_cons (op_call (w0 rfl) rfl rfl (rc_call C50 rfl rfl) (copyFiles_ok _ (nhs - k) _ (hs.drop k) _ (hR125.more (by omega)) (hD126.any (by omega)) (by first | assumption | exact SzOK.nil) (by omega)) ?_)
            rintro _ w128 ⟨A130, c131, hs132, rfl, hO133, hDO134, hfe135, hZ136, hch129⟩
            have hsz137 := hch129.size
            replace hRhs := hRhs.ch0 hch129
            replace hDhs := hDhs.ch0 hch129
            replace hR67 := hR67.ch0 hch129
            replace hR76 := hR76.ch0 hch129
            replace hD77 := hD77.ch0 hch129
            replace hO108 := hO108.ch0 hch129
            replace hDO119 := hDO119.ch0 hch129
            replace hR125 := hR125.ch0 hch129
            replace hD126 := hD126.ch0 hch129
            replace hc := hc.step0 hch129
            have hub138 := hO133.lt
            have hcap139 : hs132.length ≤ c131 := by obtain ⟨_, _, hv, h1, _⟩ := hO133.form; injection hv with _ _ h3; omega
            have hfl140 : hs132.length = (fvs (hs.drop k)).length := by rw [← hfe135, fvs_len]
            try simp only [fvs_len, List.length_take, List.length_drop] at hfl140
            have hdj141 : ∀ s ∈ obl (.slice A114 (hs83 ++ ([⟨nq, none, 0, 0, []⟩] : List Fl)).length c115), s ∉ obl (.slice A130 hs132.length c131) := fun s hs hs2 => by first | (have h1 := hub113 s hs; have h2 := hO133.off s hs2; omega) | (simp [obl, Value.ownBlock] at hs; done) | (simp [obl, Value.ownBlock] at hs2; done) | (have h1 := hub113 s hs; simp [obl, Value.ownBlock] at hs2; omega)
            refine rw_cons (op_append Try.underlying24 T48 (fun _ => rfl) rfl (by decide) (fun _ => one_all rfl) (w0 rfl) rfl rfl rfl rfl rfl hO108 (hO133.rs (fun _ => rfl)) (by unfold maxLen; first | omega | (simp; omega)) (by first | omega | (simp; omega)) (by omega) ?_)
            rintro v142 w143 hO144 hch145 hs146
            have hl147 : ((hs83 ++ ([⟨nq, none, 0, 0, []⟩] : List Fl)) ++ hs132).length = (hs83 ++ ([⟨nq, none, 0, 0, []⟩] : List Fl)).length + hs132.length := by first | (have hl0 := (hO133.rs (fun _ => rfl)).len; omega) | (have hl0 := (hO133.rs (fun _ => rfl)).len; simp only [List.length_append, List.length_cons, List.length_nil] at hl0 ⊢; omega) | (simp; omega; done) | simp | rfl
            have hsz149 := hch145.size
            replace hRhs := hRhs.ch hch145 (hO108.off.le (by omega))
            replace hDhs := hDhs.ch hch145 (fun s hs => by first | exact .inr (.inl hs) | exact .inr (.inl (obl_any hs)) | exact .inr (.inr (Nat.le_trans (by omega) (hO108.off s hs))) | exact .inl (Nat.lt_of_lt_of_le (hub113 s hs) (by omega)))
            replace hR67 := hR67.ch hch145 (hO108.off.le (by omega))
            replace hR76 := hR76.ch hch145 (hO108.off.le (by omega))
            replace hD77 := hD77.ch hch145 (fun s hs => by first | exact .inr (.inl hs) | exact .inr (.inl (obl_any hs)) | exact .inr (.inr (Nat.le_trans (by omega) (hO108.off s hs))) | exact .inl (Nat.lt_of_lt_of_le (hub113 s hs) (by omega)))
            replace hDO119 := hDO119.ch hch145 (fun s hs => by first | exact .inr (.inl hs) | exact .inr (.inl (obl_any hs)) | exact .inr (.inr (Nat.le_trans (by omega) (hO108.off s hs))) | exact .inl (Nat.lt_of_lt_of_le (hub113 s hs) (by omega)))
            replace hR125 := hR125.ch hch145 (hO108.off.le (by omega))
            replace hD126 := hD126.ch hch145 (fun s hs => by first | exact .inr (.inl hs) | exact .inr (.inl (obl_any hs)) | exact .inr (.inr (Nat.le_trans (by omega) (hO108.off s hs))) | exact .inl (Nat.lt_of_lt_of_le (hub113 s hs) (by omega)))
            replace hO133 := hO133.ch hch145 (dj_sw hdj141)
            replace hDO134 := hDO134.ch hch145 (fun s hs => by first | exact .inr (.inl hs) | exact .inr (.inl (obl_any hs)) | exact .inr (.inr (Nat.le_trans (by omega) (hO108.off s hs))) | exact .inl (Nat.lt_of_lt_of_le (hub113 s hs) (by omega)))
            replace hc := (hO108.off.le (by omega)).step hc hch145
            have hub150 := hO144.lt
            obtain ⟨A151, c152, hv153, hcap154, hcap155⟩ := hO144.form; subst hv153
            have hdj148 : ∀ s ∈ obl (.slice A151 ((hs83 ++ ([⟨nq, none, 0, 0, []⟩] : List Fl)) ++ hs132).length c152), s ∉ obl (.slice A130 hs132.length c131) := dj_new hs146 (dj_as hdj141) (fun s hs => by have := hub138 s hs; omega)
            have hq1 := hDO119.rex2 (Y := obl (.slice A151 ((hs83 ++ ([⟨nq, none, 0, 0, []⟩] : List Fl)) ++ hs132).length c152)) (fun s h => by rcases hs146 s h with h8 | h8; exact .inr (.inl h8); right; right; omega)
            have hq2 := hDO134.rex2 (Y := obl (.slice A151 ((hs83 ++ ([⟨nq, none, 0, 0, []⟩] : List Fl)) ++ hs132).length c152)) (fun s h => by rcases hs146 s h with h8 | h8; (have := hub113 s h8; left; omega); right; right; omega)
            have hDO156 : DOw w53.heap.size w128.heap.size (obl (.slice A151 ((hs83 ++ ([⟨nq, none, 0, 0, []⟩] : List Fl)) ++ hs132).length c152)) 3 w143 ((hs83 ++ ([⟨nq, none, 0, 0, []⟩] : List Fl)) ++ hs132) := hq1.app2 hq2 (by omega) (by omega) (by omega)
            have hZ157 : SzOK ((hs83 ++ ([⟨nq, none, 0, 0, []⟩] : List Fl)) ++ hs132) := SzOK.app (by assumption) (by assumption)
            refine rw_cons (op_pv (w0 rfl) rfl rfl (pv_assign (v := (.slice A151 ((hs83 ++ ([⟨nq, none, 0, 0, []⟩] : List Fl)) ++ hs132).length c152)) rfl rfl) ?_)
            refine rw_nil (hK124 _ _ ?_)
            refine hK122 _ _ ?_
            refine cw_seq fun K158 hK159 => ?_
            refine cw_seq fun K160 hK161 => ?_
            have hmv : fvs ((hs83 ++ ([⟨nq, none, 0, 0, []⟩] : List Fl)) ++ hs132) = insF (fvs hs) nq := by rw [ins_at (p := k) (by rw [fvs_len]; omega) (fun j hj => by rw [el_fvs (by omega)]; exact hye j hj) (fun h => by rw [fvs_len] at h; rw [el_fvs h]; first | assumption | (exfalso; omega)), fvs_app, fvs_app, hfe86, hfe135, fvs_take, fvs_drop]; simp [fvs, fv]
            refine cw_region fun K162 hK163 => ?_
            refine rw_cons (op_pv (w0 rfl) rfl rfl (pv_move (v := (.slice A151 ((hs83 ++ ([⟨nq, none, 0, 0, []⟩] : List Fl)) ++ hs132).length c152)) rfl rfl) ?_)
            refine rw_cons (op_call (w0 rfl) rfl rfl (rc_call C31 rfl rfl) (FilesValid_i _ ((hs83 ++ ([⟨nq, none, 0, 0, []⟩] : List Fl)) ++ hs132).length _ ((hs83 ++ ([⟨nq, none, 0, 0, []⟩] : List Fl)) ++ hs132) _ (hO144.rs (fun _ => rfl)) (hDO156.any (by omega)) (by first | assumption | exact SzOK.nil) (by omega)) ?_)
            rintro _ w164 ⟨rfl, hch165⟩
            have hsz166 := hch165.size
            replace hRhs := hRhs.ch0 hch165
            replace hDhs := hDhs.ch0 hch165
            replace hR67 := hR67.ch0 hch165
            replace hR76 := hR76.ch0 hch165
            replace hD77 := hD77.ch0 hch165
            replace hR125 := hR125.ch0 hch165
            replace hD126 := hD126.ch0 hch165
            replace hO133 := hO133.ch0 hch165
            replace hO144 := hO144.ch0 hch165
            replace hDO156 := hDO156.ch0 hch165
            replace hc := hc.step0 hch165
            refine rw_cons (op_pv (w0 rfl) rfl rfl (pv_not rfl rfl) ?_)
            refine rw_nil (hK163 _ _ ?_)
            refine hK161 _ _ ?_
            refine cw_cond rfl (fun h167 => ?_) (fun h167 => ?_)
            · -- then
              replace h167 := not_t h167
              replace h167 := dec_f h167
              refine cw_seq fun K168 hK169 => ?_
              refine cw_region fun K170 hK171 => ?_
              refine rw_cons (op_bslice [] Try.underlying24 T48 (w0 rfl) rfl rfl rfl rfl rfl (by simp [Value.cells]) (by decide) ?_)
              intro g173 w172 hg176 hg177 hK175 hch174
              have hO178 : Own encF 2 w172 w164.heap.size 48 (.slice (some ⟨g173, 0, none⟩) 0 0) ([] : List Fl) := Blk.own (xs := ([] : List Fl)) hK175 (by omega) rfl (by decide) rfl
              have hsz179 := hch174.size
              replace hRhs := hRhs.ch0 hch174
              replace hDhs := hDhs.ch0 hch174
              replace hR67 := hR67.ch0 hch174
              replace hR76 := hR76.ch0 hch174
              replace hD77 := hD77.ch0 hch174
              replace hR125 := hR125.ch0 hch174
              replace hD126 := hD126.ch0 hch174
              replace hO133 := hO133.ch0 hch174
              replace hO144 := hO144.ch0 hch174
              replace hDO156 := hDO156.ch0 hch174
              replace hc := hc.step0 hch174
              have hub180 := hO178.lt
              have hdj181 : ∀ s ∈ obl (.slice A130 hs132.length c131), s ∉ obl (.slice (some ⟨g173, 0, none⟩) 0 0) := fun s hs hs2 => by first | (have h1 := hub138 s hs; have h2 := hO178.off s hs2; omega) | (simp [obl, Value.ownBlock] at hs; done) | (simp [obl, Value.ownBlock] at hs2; done) | (have h1 := hub138 s hs; simp [obl, Value.ownBlock] at hs2; omega)
              have hdj182 : ∀ s ∈ obl (.slice A151 ((hs83 ++ ([⟨nq, none, 0, 0, []⟩] : List Fl)) ++ hs132).length c152), s ∉ obl (.slice (some ⟨g173, 0, none⟩) 0 0) := fun s hs hs2 => by first | (have h1 := hub150 s hs; have h2 := hO178.off s hs2; omega) | (simp [obl, Value.ownBlock] at hs; done) | (simp [obl, Value.ownBlock] at hs2; done) | (have h1 := hub150 s hs; simp [obl, Value.ownBlock] at hs2; omega)
              refine rw_cons (op_pv (w0 rfl) rfl rfl (pv_assign (v := (.slice (some ⟨g173, 0, none⟩) 0 0)) rfl rfl) ?_)
              refine rw_cons (op_pv (w0 rfl) rfl rfl (pv_assign (v := (.bool false)) rfl rfl) ?_)
              refine rw_nil (hK171 _ _ ?_)
              refine hK169 _ _ ?_
              refine cw_ret ?_
              refine fin2 rfl rfl ?_
              have hno : ¬MakeOK (fvs hs) nq := by rintro ⟨h1, h2, h3⟩; first | contradiction | omega | (rw [← hmv] at h3; contradiction)
              have he_0 : fvs ([] : List Fl) = makeV (fvs hs) nq := (makeV_no hno).symm
              exact ⟨_, _, ([] : List Fl), tup2 (sl_as hO178 rfl) (bvf hno), own_as (xs := ([] : List Fl)) (hO178.less (by omega)) rfl, DOw.nil, he_0, (by first | assumption | exact SzOK.nil), hc⟩
            · -- else
              replace h167 := not_f h167
              replace h167 := dec_t h167
              refine cw_skip ?_
              refine hK159 _ _ ?_
              refine cw_seq fun K183 hK184 => ?_
              refine cw_region fun K185 hK186 => ?_
              refine rw_cons (op_pv (w0 rfl) rfl rfl (pv_move (v := (.slice A151 ((hs83 ++ ([⟨nq, none, 0, 0, []⟩] : List Fl)) ++ hs132).length c152)) rfl rfl) ?_)
              refine rw_cons (op_pv (w0 rfl) rfl rfl (pv_assign (v := (.slice A151 ((hs83 ++ ([⟨nq, none, 0, 0, []⟩] : List Fl)) ++ hs132).length c152)) rfl rfl) ?_)
              refine rw_cons (op_pv (w0 rfl) rfl rfl (pv_assign (v := (.bool true)) rfl rfl) ?_)
              refine rw_nil (hK186 _ _ ?_)
              refine hK184 _ _ ?_
              refine cw_ret ?_
              refine fin2 rfl rfl ?_
              have hyes : MakeOK (fvs hs) nq := ⟨by assumption, by omega, by rw [← hmv]; assumption⟩
              have he_0 : fvs ((hs83 ++ ([⟨nq, none, 0, 0, []⟩] : List Fl)) ++ hs132) = makeV (fvs hs) nq := by rw [makeV_yes hyes, ← hmv]
              exact ⟨_, _, ((hs83 ++ ([⟨nq, none, 0, 0, []⟩] : List Fl)) ++ hs132), tup2 (sl_as hO144 rfl) (bvt hyes), own_as (xs := ((hs83 ++ ([⟨nq, none, 0, 0, []⟩] : List Fl)) ++ hs132)) (hO144.less (by omega)) rfl, (hDO156.as (by omega) (by omega)), he_0, (by first | assumption | exact SzOK.nil), hc⟩
        · -- no
          replace hb66 := of_decide_eq_false hb66
          refine rw_cons (op_pass (w1n1 rfl rfl rfl rfl) rfl rfl ?_)
          refine rw_cons (op_pass (w1n1 rfl rfl rfl rfl) rfl rfl ?_)
          refine rw_cons (op_pass (w1n1 rfl rfl rfl rfl) rfl rfl ?_)
          refine rw_cons (op_pass (w1n1 rfl rfl rfl rfl) rfl rfl ?_)
          refine rw_cons (op_pass (w1n1 rfl rfl rfl rfl) rfl rfl ?_)
          refine rw_cons (op_pass (w1n1 rfl rfl rfl rfl) rfl rfl ?_)
          refine rw_cons (op_pass (w1n1 rfl rfl rfl rfl) rfl rfl ?_)
          refine rw_cons (op_pv (w0 rfl) rfl rfl (pv_pickF (v := (.bool false)) rfl rfl rfl) ?_)
          refine rw_nil (hK65 _ _ ?_)
          refine hK63 _ _ ?_
          refine cw_cond rfl (fun h187 => ?_) (fun h187 => ?_)
          · -- then
            cases h187
          · -- else
            clear h187
            refine cw_exit ?_
            refine hK52 _ _ ?_
            refine cw_seq fun K188 hK189 => ?_
            refine cw_region fun K190 hK191 => ?_
            refine rw_cons (op_pv (w0 rfl) rfl rfl (pv_move (v := (.slice Ahs nhs chs)) rfl rfl) ?_)
            refine rw_cons (op_pv (w0 rfl) rfl rfl (pv_move (v := (.int .i64 (k : Int))) rfl rfl) ?_)
            refine rw_cons (op_pv (w0 rfl) rfl rfl (pv_upto Try.underlying24 T48 rfl rfl rfl (by omega) (by omega)) ?_)
            have hR192 : RS encF 2 w53 w.heap.size Ahs k (hs.take k) := (hRhs).upto (by omega)
            have hD193 : DX 0 w.heap.size ([]) w53 (hs.take k) := (hDhs).take k
            have hZ194 : SzOK (hs.take k) := SzOK.take (by assumption) k
            refine rw_cons (op_call (w0 rfl) rfl rfl (rc_call C50 rfl rfl) (copyFiles_ok _ k _ (hs.take k) _ (hR192.more (by omega)) (hD193.any (by omega)) (by first | assumption | exact SzOK.nil) (by omega)) ?_)
            rintro _ w195 ⟨A197, c198, hs199, rfl, hO200, hDO201, hfe202, hZ203, hch196⟩
            have hsz204 := hch196.size
            replace hRhs := hRhs.ch0 hch196
            replace hDhs := hDhs.ch0 hch196
            replace hR192 := hR192.ch0 hch196
            replace hD193 := hD193.ch0 hch196
            replace hc := hc.step0 hch196
            have hub205 := hO200.lt
            have hcap206 : hs199.length ≤ c198 := by obtain ⟨_, _, hv, h1, _⟩ := hO200.form; injection hv with _ _ h3; omega
            have hfl207 : hs199.length = (fvs (hs.take k)).length := by rw [← hfe202, fvs_len]
            try simp only [fvs_len, List.length_take, List.length_drop] at hfl207
            refine rw_cons (op_pv (w0 rfl) rfl rfl (pv_assign (v := (.slice A197 hs199.length c198)) rfl rfl) ?_)
            refine rw_nil (hK191 _ _ ?_)
            refine hK189 _ _ ?_
            refine cw_seq fun K208 hK209 => ?_
            refine cw_region fun K210 hK211 => ?_
            refine rw_cons (op_pv (w0 rfl) rfl rfl (pv_move (v := (.slice A197 hs199.length c198)) rfl rfl) ?_)
            refine rw_cons (op_pv (w0 rfl) rfl rfl (pv_move (v := (.string nq)) rfl rfl) ?_)
            refine rw_cons (op_pv (w0 rfl) rfl rfl (pv_build rfl rfl (B48_0S _)) ?_)
            refine rw_cons (op_bslice [(.agg #[(.string nq), (.slice none 0 0)])] Try.underlying24 T48 (w0 rfl) rfl rfl rfl rfl rfl (by simp [Value.cells]) (by decide) ?_)
            intro g213 w212 hg216 hg217 hK215 hch214
            have hO218 : Own encF 2 w212 w195.heap.size 48 (.slice (some ⟨g213, 0, none⟩) 1 1) ([⟨nq, none, 0, 0, []⟩] : List Fl) := Blk.own (xs := ([⟨nq, none, 0, 0, []⟩] : List Fl)) hK215 (by omega) rfl (by decide) rfl
            have hsz219 := hch214.size
            replace hRhs := hRhs.ch0 hch214
            replace hDhs := hDhs.ch0 hch214
            replace hR192 := hR192.ch0 hch214
            replace hD193 := hD193.ch0 hch214
            replace hO200 := hO200.ch0 hch214
            replace hDO201 := hDO201.ch0 hch214
            replace hc := hc.step0 hch214
            have hub220 := hO218.lt
            have hdj221 : ∀ s ∈ obl (.slice A197 hs199.length c198), s ∉ obl (.slice (some ⟨g213, 0, none⟩) 1 1) := fun s hs hs2 => by first | (have h1 := hub205 s hs; have h2 := hO218.off s hs2; omega) | (simp [obl, Value.ownBlock] at hs; done) | (simp [obl, Value.ownBlock] at hs2; done) | (have h1 := hub205 s hs; simp [obl, Value.ownBlock] at hs2; omega)
            refine rw_cons (op_append Try.underlying24 T48 (fun _ => rfl) rfl (by decide) (fun _ => one_all rfl) (w0 rfl) rfl rfl rfl rfl rfl hO200 (hO218.rs (fun _ => rfl)) (by unfold maxLen; first | omega | (simp; omega)) (by first | omega | (simp; omega)) (by omega) ?_)
            rintro v222 w223 hO224 hch225 hs226
            have hl227 : (hs199 ++ ([⟨nq, none, 0, 0, []⟩] : List Fl)).length = hs199.length + 1 := by first | (have hl0 := (hO218.rs (fun _ => rfl)).len; omega) | (have hl0 := (hO218.rs (fun _ => rfl)).len; simp only [List.length_append, List.length_cons, List.length_nil] at hl0 ⊢; omega) | (simp; omega; done) | simp | rfl
            clear hO218
            have hsz228 := hch225.size
            replace hRhs := hRhs.ch hch225 (hO200.off.le (by omega))
            replace hDhs := hDhs.ch hch225 (fun s hs => by first | exact .inr (.inl hs) | exact .inr (.inl (obl_any hs)) | exact .inr (.inr (Nat.le_trans (by omega) (hO200.off s hs))) | exact .inl (Nat.lt_of_lt_of_le (hub205 s hs) (by omega)))
            replace hR192 := hR192.ch hch225 (hO200.off.le (by omega))
            replace hD193 := hD193.ch hch225 (fun s hs => by first | exact .inr (.inl hs) | exact .inr (.inl (obl_any hs)) | exact .inr (.inr (Nat.le_trans (by omega) (hO200.off s hs))) | exact .inl (Nat.lt_of_lt_of_le (hub205 s hs) (by omega)))
            replace hDO201 := hDO201.ch hch225 (fun s hs => by first | exact .inr (.inl hs) | exact .inr (.inl (obl_any hs)) | exact .inr (.inr (Nat.le_trans (by omega) (hO200.off s hs))) | exact .inl (Nat.lt_of_lt_of_le (hub205 s hs) (by omega)))
            replace hc := (hO200.off.le (by omega)).step hc hch225
            have hub229 := hO224.lt
            obtain ⟨A230, c231, hv232, hcap233, hcap234⟩ := hO224.form; subst hv232
            have hDO235 : DOw w53.heap.size w195.heap.size (obl (.slice A230 (hs199 ++ ([⟨nq, none, 0, 0, []⟩] : List Fl)).length c231)) 3 w223 (hs199 ++ ([⟨nq, none, 0, 0, []⟩] : List Fl)) := (hDO201.rex2 (Y := obl (.slice A230 (hs199 ++ ([⟨nq, none, 0, 0, []⟩] : List Fl)).length c231)) (fun s h => by rcases hs226 s h with h8 | h8; exact .inr (.inl h8); right; right; omega)).snocNil _
            have hZ236 : SzOK (hs199 ++ ([⟨nq, none, 0, 0, []⟩] : List Fl)) := SzOK.app (by assumption) (SzOK.nmOne (by omega))
            refine rw_cons (op_pv (w0 rfl) rfl rfl (pv_assign (v := (.slice A230 (hs199 ++ ([⟨nq, none, 0, 0, []⟩] : List Fl)).length c231)) rfl rfl) ?_)
            refine rw_nil (hK211 _ _ ?_)
            refine hK209 _ _ ?_
            refine cw_seq fun K237 hK238 => ?_
            refine cw_region fun K239 hK240 => ?_
            refine rw_cons (op_pv (w0 rfl) rfl rfl (pv_move (v := (.slice A230 (hs199 ++ ([⟨nq, none, 0, 0, []⟩] : List Fl)).length c231)) rfl rfl) ?_)
            refine rw_cons (op_pv (w0 rfl) rfl rfl (pv_move (v := (.slice Ahs nhs chs)) rfl rfl) ?_)
            refine rw_cons (op_pv (w0 rfl) rfl rfl (pv_move (v := (.int .i64 (k : Int))) rfl rfl) ?_)
            refine rw_cons (op_pv (w0 rfl) rfl rfl (pv_from Try.underlying24 T48 rfl rfl rfl (by omega) (by omega)) ?_)
            have hR241 : RS encF 2 w223 w.heap.size (if chs = k then Ahs else (Ahs : Option Addr).map (·.add (k * 2))) (nhs - k) (hs.drop k) := (hRhs).from (by omega) (by omega)
            have hD242 : DX 0 w.heap.size ([]) w223 (hs.drop k) := (hDhs).drop k
            have hZ243 : SzOK (hs.drop k) := SzOK.drop (by assumption) k
            refine rw_cons (op_call (w0 rfl) rfl rfl (rc_call C50 rfl rfl) (copyFiles_ok _ (nhs - k) _ (hs.drop k) _ (hR241.more (by omega)) (hD242.any (by omega)) (by first | assumption | exact SzOK.nil) (by omega)) ?_)
            rintro _ w244 ⟨A246, c247, hs248, rfl, hO249, hDO250, hfe251, hZ252, hch245⟩
            have hsz253 := hch245.size
            replace hRhs := hRhs.ch0 hch245
            replace hDhs := hDhs.ch0 hch245
            replace hR192 := hR192.ch0 hch245
            replace hD193 := hD193.ch0 hch245
            replace hO224 := hO224.ch0 hch245
            replace hDO235 := hDO235.ch0 hch245
            replace hR241 := hR241.ch0 hch245
            replace hD242 := hD242.ch0 hch245
            replace hc := hc.step0 hch245
            have hub254 := hO249.lt
            have hcap255 : hs248.length ≤ c247 := by obtain ⟨_, _, hv, h1, _⟩ := hO249.form; injection hv with _ _ h3; omega
            have hfl256 : hs248.length = (fvs (hs.drop k)).length := by rw [← hfe251, fvs_len]
            try simp only [fvs_len, List.length_take, List.length_drop] at hfl256
            have hdj257 : ∀ s ∈ obl (.slice A230 (hs199 ++ ([⟨nq, none, 0, 0, []⟩] : List Fl)).length c231), s ∉ obl (.slice A246 hs248.length c247) := fun s hs hs2 => by first | (have h1 := hub229 s hs; have h2 := hO249.off s hs2; omega) | (simp [obl, Value.ownBlock] at hs; done) | (simp [obl, Value.ownBlock] at hs2; done) | (have h1 := hub229 s hs; simp [obl, Value.ownBlock] at hs2; omega)
            refine rw_cons (op_append Try.underlying24 T48 (fun _ => rfl) rfl (by decide) (fun _ => one_all rfl) (w0 rfl) rfl rfl rfl rfl rfl hO224 (hO249.rs (fun _ => rfl)) (by unfold maxLen; first | omega | (simp; omega)) (by first | omega | (simp; omega)) (by omega) ?_)
            rintro v258 w259 hO260 hch261 hs262
            have hl263 : ((hs199 ++ ([⟨nq, none, 0, 0, []⟩] : List Fl)) ++ hs248).length = (hs199 ++ ([⟨nq, none, 0, 0, []⟩] : List Fl)).length + hs248.length := by first | (have hl0 := (hO249.rs (fun _ => rfl)).len; omega) | (have hl0 := (hO249.rs (fun _ => rfl)).len; simp only [List.length_append, List.length_cons, List.length_nil] at hl0 ⊢; omega) | (simp; omega; done) | simp | rfl
            have hsz265 := hch261.size
            replace hRhs := hRhs.ch hch261 (hO224.off.le (by omega))
            replace hDhs := hDhs.ch hch261 (fun s hs => by first | exact .inr (.inl hs) | exact .inr (.inl (obl_any hs)) | exact .inr (.inr (Nat.le_trans (by omega) (hO224.off s hs))) | exact .inl (Nat.lt_of_lt_of_le (hub229 s hs) (by omega)))
            replace hR192 := hR192.ch hch261 (hO224.off.le (by omega))
            replace hD193 := hD193.ch hch261 (fun s hs => by first | exact .inr (.inl hs) | exact .inr (.inl (obl_any hs)) | exact .inr (.inr (Nat.le_trans (by omega) (hO224.off s hs))) | exact .inl (Nat.lt_of_lt_of_le (hub229 s hs) (by omega)))
            replace hDO235 := hDO235.ch hch261 (fun s hs => by first | exact .inr (.inl hs) | exact .inr (.inl (obl_any hs)) | exact .inr (.inr (Nat.le_trans (by omega) (hO224.off s hs))) | exact .inl (Nat.lt_of_lt_of_le (hub229 s hs) (by omega)))
            replace hR241 := hR241.ch hch261 (hO224.off.le (by omega))
            replace hD242 := hD242.ch hch261 (fun s hs => by first | exact .inr (.inl hs) | exact .inr (.inl (obl_any hs)) | exact .inr (.inr (Nat.le_trans (by omega) (hO224.off s hs))) | exact .inl (Nat.lt_of_lt_of_le (hub229 s hs) (by omega)))
            replace hO249 := hO249.ch hch261 (dj_sw hdj257)
            replace hDO250 := hDO250.ch hch261 (fun s hs => by first | exact .inr (.inl hs) | exact .inr (.inl (obl_any hs)) | exact .inr (.inr (Nat.le_trans (by omega) (hO224.off s hs))) | exact .inl (Nat.lt_of_lt_of_le (hub229 s hs) (by omega)))
            replace hc := (hO224.off.le (by omega)).step hc hch261
            have hub266 := hO260.lt
            obtain ⟨A267, c268, hv269, hcap270, hcap271⟩ := hO260.form; subst hv269
            have hdj264 : ∀ s ∈ obl (.slice A267 ((hs199 ++ ([⟨nq, none, 0, 0, []⟩] : List Fl)) ++ hs248).length c268), s ∉ obl (.slice A246 hs248.length c247) := dj_new hs262 (dj_as hdj257) (fun s hs => by have := hub254 s hs; omega)
            have hq1 := hDO235.rex2 (Y := obl (.slice A267 ((hs199 ++ ([⟨nq, none, 0, 0, []⟩] : List Fl)) ++ hs248).length c268)) (fun s h => by rcases hs262 s h with h8 | h8; exact .inr (.inl h8); right; right; omega)
            have hq2 := hDO250.rex2 (Y := obl (.slice A267 ((hs199 ++ ([⟨nq, none, 0, 0, []⟩] : List Fl)) ++ hs248).length c268)) (fun s h => by rcases hs262 s h with h8 | h8; (have := hub229 s h8; left; omega); right; right; omega)
            have hDO272 : DOw w53.heap.size w244.heap.size (obl (.slice A267 ((hs199 ++ ([⟨nq, none, 0, 0, []⟩] : List Fl)) ++ hs248).length c268)) 3 w259 ((hs199 ++ ([⟨nq, none, 0, 0, []⟩] : List Fl)) ++ hs248) := hq1.app2 hq2 (by omega) (by omega) (by omega)
            have hZ273 : SzOK ((hs199 ++ ([⟨nq, none, 0, 0, []⟩] : List Fl)) ++ hs248) := SzOK.app (by assumption) (by assumption)
            refine rw_cons (op_pv (w0 rfl) rfl rfl (pv_assign (v := (.slice A267 ((hs199 ++ ([⟨nq, none, 0, 0, []⟩] : List Fl)) ++ hs248).length c268)) rfl rfl) ?_)
            refine rw_nil (hK240 _ _ ?_)
            refine hK238 _ _ ?_
            refine cw_seq fun K274 hK275 => ?_
            refine cw_seq fun K276 hK277 => ?_
            have hmv : fvs ((hs199 ++ ([⟨nq, none, 0, 0, []⟩] : List Fl)) ++ hs248) = insF (fvs hs) nq := by rw [ins_at (p := k) (by rw [fvs_len]; omega) (fun j hj => by rw [el_fvs (by omega)]; exact hye j hj) (fun h => by rw [fvs_len] at h; rw [el_fvs h]; first | assumption | (exfalso; omega)), fvs_app, fvs_app, hfe202, hfe251, fvs_take, fvs_drop]; simp [fvs, fv]
            refine cw_region fun K278 hK279 => ?_
            refine rw_cons (op_pv (w0 rfl) rfl rfl (pv_move (v := (.slice A267 ((hs199 ++ ([⟨nq, none, 0, 0, []⟩] : List Fl)) ++ hs248).length c268)) rfl rfl) ?_)
            refine rw_cons (op_call (w0 rfl) rfl rfl (rc_call C31 rfl rfl) (FilesValid_i _ ((hs199 ++ ([⟨nq, none, 0, 0, []⟩] : List Fl)) ++ hs248).length _ ((hs199 ++ ([⟨nq, none, 0, 0, []⟩] : List Fl)) ++ hs248) _ (hO260.rs (fun _ => rfl)) (hDO272.any (by omega)) (by first | assumption | exact SzOK.nil) (by omega)) ?_)
            rintro _ w280 ⟨rfl, hch281⟩
            have hsz282 := hch281.size
            replace hRhs := hRhs.ch0 hch281
            replace hDhs := hDhs.ch0 hch281
            replace hR192 := hR192.ch0 hch281
            replace hD193 := hD193.ch0 hch281
            replace hR241 := hR241.ch0 hch281
            replace hD242 := hD242.ch0 hch281
            replace hO249 := hO249.ch0 hch281
            replace hO260 := hO260.ch0 hch281
            replace hDO272 := hDO272.ch0 hch281
            replace hc := hc.step0 hch281
            refine rw_cons (op_pv (w0 rfl) rfl rfl (pv_not rfl rfl) ?_)
            refine rw_nil (hK279 _ _ ?_)
            refine hK277 _ _ ?_
            refine cw_cond rfl (fun h283 => ?_) (fun h283 => ?_)
            · -- then
              replace h283 := not_t h283
              replace h283 := dec_f h283
              refine cw_seq fun K284 hK285 => ?_
              refine cw_region fun K286 hK287 => ?_
              refine rw_cons (op_bslice [] Try.underlying24 T48 (w0 rfl) rfl rfl rfl rfl rfl (by simp [Value.cells]) (by decide) ?_)
              intro g289 w288 hg292 hg293 hK291 hch290
              have hO294 : Own encF 2 w288 w280.heap.size 48 (.slice (some ⟨g289, 0, none⟩) 0 0) ([] : List Fl) := Blk.own (xs := ([] : List Fl)) hK291 (by omega) rfl (by decide) rfl
              have hsz295 := hch290.size
              replace hRhs := hRhs.ch0 hch290
              replace hDhs := hDhs.ch0 hch290
              replace hR192 := hR192.ch0 hch290
              replace hD193 := hD193.ch0 hch290
              replace hR241 := hR241.ch0 hch290
              replace hD242 := hD242.ch0 hch290
              replace hO249 := hO249.ch0 hch290
              replace hO260 := hO260.ch0 hch290
              replace hDO272 := hDO272.ch0 hch290
              replace hc := hc.step0 hch290
              have hub296 := hO294.lt
              have hdj297 : ∀ s ∈ obl (.slice A246 hs248.length c247), s ∉ obl (.slice (some ⟨g289, 0, none⟩) 0 0) := fun s hs hs2 => by first | (have h1 := hub254 s hs; have h2 := hO294.off s hs2; omega) | (simp [obl, Value.ownBlock] at hs; done) | (simp [obl, Value.ownBlock] at hs2; done) | (have h1 := hub254 s hs; simp [obl, Value.ownBlock] at hs2; omega)
              have hdj298 : ∀ s ∈ obl (.slice A267 ((hs199 ++ ([⟨nq, none, 0, 0, []⟩] : List Fl)) ++ hs248).length c268), s ∉ obl (.slice (some ⟨g289, 0, none⟩) 0 0) := fun s hs hs2 => by first | (have h1 := hub266 s hs; have h2 := hO294.off s hs2; omega) | (simp [obl, Value.ownBlock] at hs; done) | (simp [obl, Value.ownBlock] at hs2; done) | (have h1 := hub266 s hs; simp [obl, Value.ownBlock] at hs2; omega)
              refine rw_cons (op_pv (w0 rfl) rfl rfl (pv_assign (v := (.slice (some ⟨g289, 0, none⟩) 0 0)) rfl rfl) ?_)
              refine rw_cons (op_pv (w0 rfl) rfl rfl (pv_assign (v := (.bool false)) rfl rfl) ?_)
              refine rw_nil (hK287 _ _ ?_)
              refine hK285 _ _ ?_
              refine cw_ret ?_
              refine fin2 rfl rfl ?_
              have hno : ¬MakeOK (fvs hs) nq := by rintro ⟨h1, h2, h3⟩; first | contradiction | omega | (rw [← hmv] at h3; contradiction)
              have he_0 : fvs ([] : List Fl) = makeV (fvs hs) nq := (makeV_no hno).symm
              exact ⟨_, _, ([] : List Fl), tup2 (sl_as hO294 rfl) (bvf hno), own_as (xs := ([] : List Fl)) (hO294.less (by omega)) rfl, DOw.nil, he_0, (by first | assumption | exact SzOK.nil), hc⟩
            · -- else
              replace h283 := not_f h283
              replace h283 := dec_t h283
              refine cw_skip ?_
              refine hK275 _ _ ?_
              refine cw_seq fun K299 hK300 => ?_
              refine cw_region fun K301 hK302 => ?_
              refine rw_cons (op_pv (w0 rfl) rfl rfl (pv_move (v := (.slice A267 ((hs199 ++ ([⟨nq, none, 0, 0, []⟩] : List Fl)) ++ hs248).length c268)) rfl rfl) ?_)
              refine rw_cons (op_pv (w0 rfl) rfl rfl (pv_assign (v := (.slice A267 ((hs199 ++ ([⟨nq, none, 0, 0, []⟩] : List Fl)) ++ hs248).length c268)) rfl rfl) ?_)
              refine rw_cons (op_pv (w0 rfl) rfl rfl (pv_assign (v := (.bool true)) rfl rfl) ?_)
              refine rw_nil (hK302 _ _ ?_)
              refine hK300 _ _ ?_
              refine cw_ret ?_
              refine fin2 rfl rfl ?_
              have hyes : MakeOK (fvs hs) nq := ⟨by assumption, by omega, by rw [← hmv]; assumption⟩
              have he_0 : fvs ((hs199 ++ ([⟨nq, none, 0, 0, []⟩] : List Fl)) ++ hs248) = makeV (fvs hs) nq := by rw [makeV_yes hyes, ← hmv]
              exact ⟨_, _, ((hs199 ++ ([⟨nq, none, 0, 0, []⟩] : List Fl)) ++ hs248), tup2 (sl_as hO260 rfl) (bvt hyes), own_as (xs := ((hs199 ++ ([⟨nq, none, 0, 0, []⟩] : List Fl)) ++ hs248)) (hO260.less (by omega)) rfl, (hDO272.as (by omega) (by omega)), he_0, (by first | assumption | exact SzOK.nil), hc⟩
end Go.Proofs.Ythgnlljpjpklpaa

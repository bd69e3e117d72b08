/-
  The walk of impl.FilesValid, written by program: each line names the law of one operation. Conditions: those of the theorem.
-/
import Derived.Test.YthgnlljpjpklpaaProg
import Derived.Test.YthgnlljpjpklpaaDeep
import Derived.Test.YthgnlljpjpklpaaFimplfileValid
import Derived.Test.YthgnlljpjpklpaaFimpltreeOf
import Derived.KernelRfl
namespace Go.Proofs.Ythgnlljpjpklpaa
open Go Go.RowKit
set_option linter.unusedVariables false
set_option linter.unusedSimpArgs false
namespace FilesValid_iF
theorem T9 : TI Try.prog 9 false (.string { data := #[] }) 1 16 := TI.mk' Try.underlying9 rfl (by kernel_rfl)
theorem T48 : TI Try.prog 48 true (.agg #[.string { data := #[] }, .slice none 0 0]) 2 40 := TI.mk' Try.underlying48 rfl (by kernel_rfl)
theorem F48_0 : FldOK Try.prog 48 0 0 := ⟨_, _, 0, Try.underlying48, rfl, rfl, by kernel_rfl⟩
theorem C55 : Callable Try.prog 55 := ⟨_, Try.func55, by kernel_rfl, by kernel_rfl⟩
theorem C56 : Callable Try.prog 56 := ⟨_, Try.func56, by kernel_rfl, by kernel_rfl⟩
end FilesValid_iF
open FilesValid_iF in
set_option maxHeartbeats 4000000 in
theorem FilesValid_i (Ahs : Option Addr) (nhs chs : Nat) (hs : List Fl) (w : World) (hRhs : RS encF 2 w w.heap.size Ahs nhs hs) (hDhs : DX 0 w.heap.size [] w hs) (hZhs : SzOK hs) (hNhs : nhs ≤ 1099511627776) :
    Fn Try.prog 31 [(.slice Ahs nhs chs)] w fun v w' => v = .bool (dec (FOK (fvs hs))) ∧ Ch [] w w' := by
  have hlenhs := hRhs.len
  refine fn_of (n := 42) Try.func31 rfl rfl rfl rfl ?_
  have hc : Ch [] w w := Ch.refl _ _
  refine cw_seq fun K1 hK2 => ?_
  refine cw_region fun K3 hK4 => ?_
  refine rw_cons (op_pv (w0 rfl) rfl rfl (pv_assign (v := (.bool false)) rfl rfl) ?_)
  refine rw_nil (hK4 _ _ ?_)
  refine hK2 _ _ ?_
  refine cw_seq fun K5 hK6 => ?_
  refine cw_seq fun K7 hK8 => ?_
  refine cw_region fun K9 hK10 => ?_
  refine rw_cons (op_pv (w0 rfl) rfl rfl (pv_move (v := (.slice Ahs nhs chs)) rfl rfl) ?_)
  refine rw_cons (op_pv (w0 rfl) rfl rfl (pv_len Try.underlying24 rfl rfl) ?_)
  refine rw_cons (op_pv (w0 rfl) rfl rfl (pv_gtr rfl rfl rfl) ?_)
  refine rw_nil (hK10 _ _ ?_)
  refine hK8 _ _ ?_
  refine cw_cond rfl (fun h11 => ?_) (fun h11 => ?_)
  · -- then
    replace h11 := of_decide_eq_true h11
    refine cw_seq fun K12 hK13 => ?_
    refine cw_region fun K14 hK15 => ?_
    refine rw_cons (op_pv (w0 rfl) rfl rfl (pv_assign (v := (.bool false)) rfl rfl) ?_)
    refine rw_nil (hK15 _ _ ?_)
    refine hK13 _ _ ?_
    refine cw_ret ?_
    refine fin1 rfl ?_
    exact ⟨(bvf (fun h => by have h1 := h.len; rw [fvs_len] at h1; omega)), hc⟩
  · -- else
    replace h11 := of_decide_eq_false h11
    refine cw_skip ?_
    refine hK6 _ _ ?_
    refine cw_seq fun K16 hK17 => ?_
    refine cw_seq fun K18 hK19 => ?_
    refine cw_region fun K20 hK21 => ?_
    refine rw_cons (op_pv (w0 rfl) rfl rfl (pv_move (v := (.slice Ahs nhs chs)) rfl rfl) ?_)
    refine rw_cons (op_pv (w0 rfl) rfl rfl (pv_len Try.underlying24 rfl rfl) ?_)
    refine rw_cons (op_pv (w0 rfl) rfl rfl (pv_move (v := (.int .i64 0)) rfl rfl) ?_)
    refine rw_nil (hK21 _ _ ?_)
    refine hK19 _ _ ?_
    refine cw_block ?_
    refine cw_loop (σ := Nat) (fun k => [(12, (.int .i64 (k : Int))), (0, (.slice Ahs nhs chs)), (10, (.slice Ahs nhs chs)), (11, (.int .i64 (nhs : Int)))]) (fun k W => (k ≤ nhs ∧ ∀ q, q < k → FileOK (fv (el hs q)) ∧ ∀ j, j + 1 = q → slt (el hs j).nm (el hs q).nm = true) ∧ RS encF 2 W w.heap.size Ahs nhs hs ∧ DX 0 w.heap.size ([]) W hs ∧ Ch [] w W) (fun k => nhs - k) 0 ?_ ?_ ?_
    · exact ⟨rfl, rfl, rfl, rfl, trivial⟩
    · refine ⟨⟨Nat.zero_le _, fun q hq => by omega⟩, hRhs, hDhs, hc⟩
    · rintro k J26 w22 ⟨⟨hk, hye⟩, hRhs, hDhs, hc⟩ K23 hK24
      have hsz28 := hc.size
      refine cw_seq fun K29 hK30 => ?_
      refine cw_region fun K31 hK32 => ?_
      refine rw_cons (op_pv (w0 rfl) rfl rfl (pv_lss rfl rfl rfl) ?_)
      refine rw_nil (hK32 _ _ ?_)
      refine hK30 _ _ ?_
      refine cw_seq fun K33 hK34 => ?_
      refine cw_cond rfl (fun h35 => ?_) (fun h35 => ?_)
      · -- then
        replace h35 := of_decide_eq_true h35
        refine cw_skip ?_
        refine hK34 _ _ ?_
        refine cw_seq fun K36 hK37 => ?_
        refine cw_block ?_
        refine cw_seq fun K38 hK39 => ?_
        refine cw_region fun K40 hK41 => ?_
        refine rw_cons (op_pv (w0 rfl) rfl rfl (pv_move (v := (.int .i64 (k : Int))) rfl rfl) ?_)
        refine rw_cons (op_pv (w0 rfl) rfl rfl (pv_idx Try.underlying24 T48 rfl rfl rfl (hRhs.some (k := k) (by omega)) (by omega) (by omega)) ?_)
        have hR42 : RS encI 1 w22 w.heap.size (el hs k).A (el hs k).n (el hs k).ps := hDhs.rs (k := k) (by omega)
        have hln43 := hR42.len
        refine rw_cons (op_lv (w0 rfl) rfl rfl (lv_loadN T48 rfl rfl rfl (fun j v hv => hRhs.cellE (k := k) (by omega) hv)) ?_)
        refine rw_cons (op_alloc T48 (w0 rfl) rfl rfl rfl ?_)
        rintro g45 w44 hg48 hg49 hB47 hch46
        have hsz50 := hch46.size
        replace hRhs := hRhs.ch0 hch46
        replace hDhs := hDhs.ch0 hch46
        replace hR42 := hR42.ch0 hch46
        replace hc := hc.step0 hch46
        replace hB47 : Blk w44 g45 48 [(.string ByteArray.empty), (.slice none 0 0)] := hB47
        refine rw_cons (op_pv (w0 rfl) rfl rfl (pv_assign (v := (.int .i64 (k : Int))) rfl rfl) ?_)
        refine rw_cons (op_store_blk T48 hB47 (w0 rfl) rfl rfl rfl rfl rfl (one_all rfl) (Nat.le_of_ble_eq_true rfl) ?_)
        rintro w51 hB53 hch52
        have hsz54 := hch52.size
        replace hRhs := hRhs.ch hch52 (off1 (by omega))
        replace hDhs := hDhs.ch hch52 (fun s hs => by simp at hs; subst hs; first | omega | (right; left; simp; done))
        replace hR42 := hR42.ch hch52 (off1 (by omega))
        replace hc := (off1 (by omega)).step hc hch52
        replace hB47 : Blk w51 g45 48 [(.string (el hs k).nm), (.slice (el hs k).A (el hs k).n (el hs k).c)] := hB53
        clear hB53
        refine rw_nil (hK41 _ _ ?_)
        refine hK39 _ _ ?_
        refine cw_seq fun K55 hK56 => ?_
        have hzk := hZhs k (by omega)
        refine cw_drawn (fun u => Ch [] w51 u) (.free 0 (.one 1 true (.free 2 (.free 3 (.free 4 (.free 5 (.free 6 (.free 7 (.free 8 (.free 9 (.free 10 (.free 11 (.free 12 (.free 13 (.free 14 (.free 15 (.free 16 (.free 17 (.done))))))))))))))))))) (by kernel_rfl) (by kernel_rfl) (Ch.refl _ _).drew fun K60 hK61 => ?_
        obtain ⟨w57, hw_, hch58, hsz59⟩ : ∃ w1 : World, w1 = w51.drew ∧ Ch [] w51 w1 ∧ w1.heap.size = w51.heap.size := ⟨_, rfl, (Ch.refl _ _).drew, rfl⟩
        rw [← hw_]; clear hw_
        have hr62 : Ch [] w51 w57 := hch58.sub (fun s hs => by cases hs)
        have hRhs_r := hRhs
        have hDhs_r := hDhs
        have hR42_r := hR42
        have hB47_r := hB47
        have hsz63 := hch58.size
        replace hRhs := hRhs.ch0 hch58
        replace hDhs := hDhs.ch0 hch58
        replace hR42 := hR42.ch0 hch58
        replace hB47 := hB47.ch0 hch58
        replace hc := hc.step0 hch58
        refine tw_free rfl (w0 rfl) rfl rfl (fun u hu => lv_loadN T48 rfl rfl rfl (fun j v hv => (hB47_r.ch hu (by simp)).cellA hv)) ?_
        refine tw_one rfl (op_call (w0 rfl) rfl rfl (rc_call C55 rfl rfl) (fileValid_ok (⟨(el hs k).nm, (el hs k).A, (el hs k).n, (el hs k).c, (el hs k).ps⟩ : Fl) _ (hR42.more (by omega)) (by dsimp only; omega)) ?_)
        rintro _ w64 ⟨rfl, hch65⟩
        have hsz66 := hch65.size
        replace hRhs := hRhs.ch0 hch65
        replace hDhs := hDhs.ch0 hch65
        replace hR42 := hR42.ch0 hch65
        replace hB47 := hB47.ch0 hch65
        replace hc := hc.step0 hch65
        replace hr62 := hr62.step0 hch65
        refine ⟨fun _ => hr62, ?_⟩
        refine tw_free rfl (w0 rfl) rfl rfl (fun u hu => (pv_not rfl rfl : PV _ _ _ _) u) ?_
        refine tw_free rfl (w0 rfl) rfl rfl (fun u hu => (pv_move (v := (.bool (!(dec (FileOK (fv (⟨(el hs k).nm, (el hs k).A, (el hs k).n, (el hs k).c, (el hs k).ps⟩ : Fl))))))) rfl rfl : PV _ _ _ _) u) ?_
        refine tw_split 20 rfl (fun hb67 => ?_) (fun hb67 => ?_)
        · -- yes
          replace hb67 := not_t hb67
          replace hb67 := dec_f hb67
          refine tw_pass rfl (w1n2 rfl rfl rfl rfl) rfl rfl ?_
          refine tw_pass rfl (w1n2 rfl rfl rfl rfl) rfl rfl ?_
          refine tw_pass rfl (w1n2 rfl rfl rfl rfl) rfl rfl ?_
          refine tw_pass rfl (w1u rfl rfl rfl) rfl rfl ?_
          refine tw_pass rfl (w1u rfl rfl rfl) rfl rfl ?_
          refine tw_pass rfl (w1u rfl rfl rfl) rfl rfl ?_
          refine tw_pass rfl (w1u rfl rfl rfl) rfl rfl ?_
          refine tw_pass rfl (w1u rfl rfl rfl) rfl rfl ?_
          refine tw_pass rfl (w1u rfl rfl rfl) rfl rfl ?_
          refine tw_pass rfl (w1u rfl rfl rfl) rfl rfl ?_
          refine tw_pass rfl (w1u rfl rfl rfl) rfl rfl ?_
          refine tw_pass rfl (w1u rfl rfl rfl) rfl rfl ?_
          refine tw_pass rfl (w1n2 rfl rfl rfl rfl) rfl rfl ?_
          refine tw_free rfl (w0 rfl) rfl rfl (fun u hu => (pv_pickT (v := (.bool true)) rfl rfl rfl : PV _ _ _ _) u) ?_
          try clear hB47_r
          try clear hDhs_r
          try clear hR42_r
          try clear hRhs_r
          refine tw_done (hK61 _ _ ?_)
          refine hK56 _ _ ?_
          refine cw_cond rfl (fun h68 => ?_) (fun h68 => ?_)
          · -- then
            clear h68
            refine cw_seq fun K69 hK70 => ?_
            refine cw_region fun K71 hK72 => ?_
            refine rw_cons (op_pv (w0 rfl) rfl rfl (pv_assign (v := (.bool false)) rfl rfl) ?_)
            refine rw_nil (hK72 _ _ ?_)
            refine hK70 _ _ ?_
            refine cw_ret ?_
            refine fin1 rfl ?_
            exact ⟨(bvf (fun h => by first | exact absurd (h.file k (by rw [fvs_len]; omega)) (by rw [el_fvs (by omega)]; assumption) | (have h1 := h.asc k ((k : Int) - 1).toNat (by omega) (by rw [fvs_len]; omega); rw [el_fvs (by omega), el_fvs (by omega)] at h1; simp_all [fv]))), hc⟩
          · -- else
            cases h68
        · -- no
          replace hb67 := not_f hb67
          replace hb67 := dec_t hb67
          refine tw_free rfl (w1y rfl rfl rfl rfl) rfl rfl (fun u hu => (pv_move (v := (.int .i64 (k : Int))) rfl rfl : PV _ _ _ _) u) ?_
          refine tw_free rfl (w1y rfl rfl rfl rfl) rfl rfl (fun u hu => (pv_gtr rfl rfl rfl : PV _ _ _ _) u) ?_
          refine tw_free rfl (w1y rfl rfl rfl rfl) rfl rfl (fun u hu => (pv_move (v := (.bool (decide (0 < (k : Int))))) rfl rfl : PV _ _ _ _) u) ?_
          refine tw_split 23 rfl (fun hb73 => ?_) (fun hb73 => ?_)
          · -- yes
            replace hb73 := of_decide_eq_true hb73
            refine tw_free rfl (w1y rfl rfl rfl rfl) rfl rfl (fun u hu => (pv_move (v := (.slice Ahs nhs chs)) rfl rfl : PV _ _ _ _) u) ?_
            refine tw_free rfl (w1y rfl rfl rfl rfl) rfl rfl (fun u hu => (pv_move (v := (.int .i64 (k : Int))) rfl rfl : PV _ _ _ _) u) ?_
            refine tw_free rfl (w1y rfl rfl rfl rfl) rfl rfl (fun u hu => (pv_sub rfl rfl rfl (by omega) (by omega) : PV _ _ _ _) u) ?_
            refine tw_free rfl (w1y rfl rfl rfl rfl) rfl rfl (fun u hu => (pv_idx Try.underlying24 T48 rfl rfl rfl (hRhs.some (k := ((k : Int) - 1).toNat) (by omega)) (by omega) (by omega) : PV _ _ _ _) u) ?_
            refine tw_free rfl (w1y rfl rfl rfl rfl) rfl rfl (fun u hu => (pv_fld F48_0 rfl rfl : PV _ _ _ _) u) ?_
            refine tw_free rfl (w1y rfl rfl rfl rfl) rfl rfl (fun u hu => lv_load T9 rfl rfl ((hRhs_r.ch0 hu).cellE (k := ((k : Int) - 1).toNat) (j := 0) (by omega) rfl)) ?_
            have hR74 : RS encI 1 w64 w.heap.size (el hs ((k : Int) - 1).toNat).A (el hs ((k : Int) - 1).toNat).n (el hs ((k : Int) - 1).toNat).ps := hDhs.rs (k := ((k : Int) - 1).toNat) (by omega)
            have hR74_r : RS encI 1 w51 w.heap.size (el hs ((k : Int) - 1).toNat).A (el hs ((k : Int) - 1).toNat).n (el hs ((k : Int) - 1).toNat).ps := hDhs_r.rs (k := ((k : Int) - 1).toNat) (by omega)
            have hln75 := hR74.len
            refine tw_free rfl (w1y rfl rfl rfl rfl) rfl rfl (fun u hu => (pv_fld F48_0 rfl rfl : PV _ _ _ _) u) ?_
            refine tw_free rfl (w1y rfl rfl rfl rfl) rfl rfl (fun u hu => lv_load T9 rfl rfl ((hB47_r.ch hu (by simp)).cellA (i := 0) rfl)) ?_
            refine tw_free rfl (w1y rfl rfl rfl rfl) rfl rfl (fun u hu => (pv_geS rfl rfl rfl : PV _ _ _ _) u) ?_
            refine tw_free rfl (w1y rfl rfl rfl rfl) rfl rfl (fun u hu => (pv_pickT (v := (.bool (!slt (el hs ((k : Int) - 1).toNat).nm (el hs k).nm))) rfl rfl rfl : PV _ _ _ _) u) ?_
            refine tw_free rfl (w0 rfl) rfl rfl (fun u hu => (pv_pickF (v := (.bool (!slt (el hs ((k : Int) - 1).toNat).nm (el hs k).nm))) rfl rfl rfl : PV _ _ _ _) u) ?_
            try clear hB47_r
            try clear hDhs_r
            try clear hR42_r
            try clear hR74_r
            try clear hRhs_r
            refine tw_done (hK61 _ _ ?_)
            refine hK56 _ _ ?_
            refine cw_cond rfl (fun h76 => ?_) (fun h76 => ?_)
            · -- then
              replace h76 := not_t h76
              refine cw_seq fun K77 hK78 => ?_
              refine cw_region fun K79 hK80 => ?_
              refine rw_cons (op_pv (w0 rfl) rfl rfl (pv_assign (v := (.bool false)) rfl rfl) ?_)
              refine rw_nil (hK80 _ _ ?_)
              refine hK78 _ _ ?_
              refine cw_ret ?_
              refine fin1 rfl ?_
              exact ⟨(bvf (fun h => by first | exact absurd (h.file k (by rw [fvs_len]; omega)) (by rw [el_fvs (by omega)]; assumption) | (have h1 := h.asc k ((k : Int) - 1).toNat (by omega) (by rw [fvs_len]; omega); rw [el_fvs (by omega), el_fvs (by omega)] at h1; simp_all [fv]))), hc⟩
            · -- else
              replace h76 := not_f h76
              refine cw_skip ?_
              refine hK37 _ _ ?_
              refine cw_region fun K81 hK82 => ?_
              refine rw_cons (op_pv (w0 rfl) rfl rfl (pv_add rfl rfl rfl (by omega) (by omega)) ?_)
              refine rw_cons (op_pv (w0 rfl) rfl rfl (pv_move (v := (.int .i64 ((k : Int) + 1))) rfl rfl) ?_)
              refine rw_nil (hK82 _ _ ?_)
              refine hK24 _ _ (k + 1) ⟨(iv (by omega)), rfl, rfl, rfl, trivial⟩ ⟨?_, hRhs, hDhs, hc⟩ ?_
              · refine ⟨by omega, fun q hq => ?_⟩
                by_cases e : q = k
                · subst e; exact ⟨by assumption, fun j hj => by first | (exfalso; omega) | (obtain rfl : j = ((q : Int) - 1).toNat := (by omega); assumption)⟩
                · exact hye q (by omega)
              · (first | omega | (simp only []; omega))
          · -- no
            replace hb73 := of_decide_eq_false hb73
            refine tw_pass rfl (w1n1 rfl rfl rfl rfl) rfl rfl ?_
            refine tw_pass rfl (w1n1 rfl rfl rfl rfl) rfl rfl ?_
            refine tw_pass rfl (w1n1 rfl rfl rfl rfl) rfl rfl ?_
            refine tw_pass rfl (w1n1 rfl rfl rfl rfl) rfl rfl ?_
            refine tw_pass rfl (w1n1 rfl rfl rfl rfl) rfl rfl ?_
            refine tw_pass rfl (w1n1 rfl rfl rfl rfl) rfl rfl ?_
            refine tw_pass rfl (w1n1 rfl rfl rfl rfl) rfl rfl ?_
            refine tw_pass rfl (w1n1 rfl rfl rfl rfl) rfl rfl ?_
            refine tw_pass rfl (w1n1 rfl rfl rfl rfl) rfl rfl ?_
            refine tw_free rfl (w1y rfl rfl rfl rfl) rfl rfl (fun u hu => (pv_pickF (v := (.bool false)) rfl rfl rfl : PV _ _ _ _) u) ?_
            refine tw_free rfl (w0 rfl) rfl rfl (fun u hu => (pv_pickF (v := (.bool false)) rfl rfl rfl : PV _ _ _ _) u) ?_
            try clear hB47_r
            try clear hDhs_r
            try clear hR42_r
            try clear hR74_r
            try clear hRhs_r
            refine tw_done (hK61 _ _ ?_)
            refine hK56 _ _ ?_
            refine cw_cond rfl (fun h83 => ?_) (fun h83 => ?_)
            · -- then
              cases h83
            · -- else
              clear h83
              refine cw_skip ?_
              refine hK37 _ _ ?_
              refine cw_region fun K84 hK85 => ?_
              refine rw_cons (op_pv (w0 rfl) rfl rfl (pv_add rfl rfl rfl (by omega) (by omega)) ?_)
              refine rw_cons (op_pv (w0 rfl) rfl rfl (pv_move (v := (.int .i64 ((k : Int) + 1))) rfl rfl) ?_)
              refine rw_nil (hK85 _ _ ?_)
              refine hK24 _ _ (k + 1) ⟨(iv (by omega)), rfl, rfl, rfl, trivial⟩ ⟨?_, hRhs, hDhs, hc⟩ ?_
              · refine ⟨by omega, fun q hq => ?_⟩
                by_cases e : q = k
                · subst e; exact ⟨by assumption, fun j hj => by first | (exfalso; omega) | (obtain rfl : j = ((q : Int) - 1).toNat := (by omega); assumption)⟩
                · exact hye q (by omega)
              · (first | omega | (simp only []; omega))
      · -- else
        replace h35 := of_decide_eq_false h35
        refine cw_exit ?_
        refine hK17 _ _ ?_
        refine cw_seq fun K86 hK87 => ?_
        refine cw_region fun K88 hK89 => ?_
        refine rw_cons (op_pv (w0 rfl) rfl rfl (pv_move (v := (.slice Ahs nhs chs)) rfl rfl) ?_)
        refine rw_cons (op_call (w0 rfl) rfl rfl (rc_call C56 rfl rfl) (treeOf_ok _ nhs _ hs _ (hRhs.more (by omega)) (hDhs.any (by omega)) (by omega) (by assumption)) ?_)
        rintro _ w90 ⟨p91, t92, b93, rfl, hT94, hnum95, hb96, hch97⟩
        have hsz98 := hch97.size
        replace hRhs := hRhs.ch0 hch97
        replace hDhs := hDhs.ch0 hch97
        replace hc := hc.step0 hch97
        have hubT99 := hT94.is.lt
        refine rw_cons (op_pv (w0 rfl) rfl rfl (pv_move (v := (.tuple #[(.pointer p91), (.bool b93)])) rfl rfl) ?_)
        refine rw_cons (op_pv (w0 rfl) rfl rfl (pv_ext (v := (.pointer p91)) rfl rfl rfl) ?_)
        refine rw_cons (op_pv (w0 rfl) rfl rfl (pv_ext (v := (.bool b93)) rfl rfl rfl) ?_)
        refine rw_cons (op_pv (w0 rfl) rfl rfl (pv_assign (v := (.pointer p91)) rfl rfl) ?_)
        refine rw_cons (op_pv (w0 rfl) rfl rfl (pv_assign (v := (.bool b93)) rfl rfl) ?_)
        refine rw_nil (hK89 _ _ ?_)
        refine hK87 _ _ ?_
        refine cw_seq fun K100 hK101 => ?_
        refine cw_region fun K102 hK103 => ?_
        refine rw_cons (op_pv (w0 rfl) rfl rfl (pv_move (v := (.bool b93)) rfl rfl) ?_)
        refine rw_cons (op_pv (w0 rfl) rfl rfl (pv_assign (v := (.bool b93)) rfl rfl) ?_)
        refine rw_nil (hK103 _ _ ?_)
        refine hK101 _ _ ?_
        refine cw_ret ?_
        refine fin1 rfl ?_
        exact ⟨(bv (files_once hb96 (by omega) (fun q hq => hye q (by omega)))), hc⟩
end Go.Proofs.Ythgnlljpjpklpaa

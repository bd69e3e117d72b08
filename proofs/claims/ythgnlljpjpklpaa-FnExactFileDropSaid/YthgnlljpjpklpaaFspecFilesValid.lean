/-
  The walk of spec.FilesValid, written by program: each line names the law of one operation. Conditions: those of the theorem.
-/
import Derived.Test.YthgnlljpjpklpaaProg
import Derived.Test.YthgnlljpjpklpaaDeep
import Derived.Test.YthgnlljpjpklpaaFspecl21Name
import Derived.Test.YthgnlljpjpklpaaFspecl21Many
import Derived.KernelRfl
namespace Go.Proofs.Ythgnlljpjpklpaa
open Go Go.RowKit
set_option linter.unusedVariables false
set_option linter.unusedSimpArgs false
namespace FilesValid_sF
theorem T3 : TI Try.prog 3 false (.int .i64 0) 1 8 := TI.mk' Try.underlying3 rfl (by kernel_rfl)
theorem T9 : TI Try.prog 9 false (.string { data := #[] }) 1 16 := TI.mk' Try.underlying9 rfl (by kernel_rfl)
theorem T25 : TI Try.prog 25 false (.slice none 0 0) 1 24 := TI.mk' Try.underlying25 rfl (by kernel_rfl)
theorem T48 : TI Try.prog 48 true (.agg #[.string { data := #[] }, .slice none 0 0]) 2 40 := TI.mk' Try.underlying48 rfl (by kernel_rfl)
theorem F48_0 : FldOK Try.prog 48 0 0 := ⟨_, _, 0, Try.underlying48, rfl, rfl, by kernel_rfl⟩
theorem F48_1 : FldOK Try.prog 48 1 1 := ⟨_, _, 0, Try.underlying48, rfl, rfl, by kernel_rfl⟩
theorem C57 : Callable Try.prog 57 := ⟨_, Try.func57, by kernel_rfl, by kernel_rfl⟩
theorem C58 : Callable Try.prog 58 := ⟨_, Try.func58, by kernel_rfl, by kernel_rfl⟩
theorem C59 : Callable Try.prog 59 := ⟨_, Try.func59, by kernel_rfl, by kernel_rfl⟩
end FilesValid_sF
open FilesValid_sF in
set_option maxHeartbeats 4000000 in
theorem FilesValid_s (Ahs : Option Addr) (nhs chs : Nat) (hs : List Fl) (w : World) (hRhs : RS encF 2 w w.heap.size Ahs nhs hs) (hDhs : DX 0 w.heap.size [] w hs) (hZhs : SzOK hs) (hNhs : nhs ≤ 1099511627776) (h8 : nhs ≤ 1048576) :
    Fn Try.prog 32 [(.slice Ahs nhs chs)] w fun v w' => v = .bool (dec (FOK (fvs hs))) ∧ Ch [] w w' := by
  have hlenhs := hRhs.len
  refine fn_of (n := 68) Try.func32 rfl rfl rfl rfl ?_
  have hc : Ch [] w w := Ch.refl _ _
  refine cw_seq fun K1 hK2 => ?_
  refine cw_region fun K3 hK4 => ?_
  refine rw_cons (op_pv (w0 rfl) rfl rfl (pv_assign (v := (.bool false)) rfl rfl) ?_)
  refine rw_nil (hK4 _ _ ?_)
  refine hK2 _ _ ?_
  refine cw_seq fun K5 hK6 => ?_
  refine cw_seq fun K7 hK8 => ?_
  refine cw_region fun K9 hK10 => ?_
  refine rw_cons (op_pv (w0 rfl) rfl rfl (pv_assign (v := (.int .i64 0)) rfl rfl) ?_)
  refine rw_nil (hK10 _ _ ?_)
  refine hK8 _ _ ?_
  refine cw_block ?_
  refine cw_loop (σ := Nat) (fun k => [(3, (.int .i64 (k : Int))), (0, (.slice Ahs nhs chs))]) (fun k W => (k ≤ nhs ∧ ∀ q, q < k → (NameOK (el hs q).nm ∧ (el hs q).n ≤ 4 ∧ ∀ j, j < (el hs q).n → (1 ≤ el (el hs q).ps j ∧ el (el hs q).ps j ≤ 99) ∧ many (fvs hs) (el (el hs q).ps j) = 1) ∧ ∀ j, j + 1 = q → slt (el hs j).nm (el hs q).nm = true) ∧ RS encF 2 W w.heap.size Ahs nhs hs ∧ DX 0 w.heap.size ([]) W hs ∧ Ch [] w W) (fun k => nhs - k) 0 ?_ ?_ ?_
  · exact ⟨rfl, rfl, trivial⟩
  · refine ⟨⟨Nat.zero_le _, fun q hq => by omega⟩, hRhs, hDhs, hc⟩
  · rintro k J15 w11 ⟨⟨hk, hye⟩, hRhs, hDhs, hc⟩ K12 hK13
    have hsz17 := hc.size
    refine cw_seq fun K18 hK19 => ?_
    refine cw_seq fun K20 hK21 => ?_
    refine cw_region fun K22 hK23 => ?_
    refine rw_cons (op_pv (w0 rfl) rfl rfl (pv_move (v := (.int .i64 (k : Int))) rfl rfl) ?_)
    refine rw_cons (op_pv (w0 rfl) rfl rfl (pv_move (v := (.slice Ahs nhs chs)) rfl rfl) ?_)
    refine rw_cons (op_pv (w0 rfl) rfl rfl (pv_len Try.underlying24 rfl rfl) ?_)
    refine rw_cons (op_pv (w0 rfl) rfl rfl (pv_lss rfl rfl rfl) ?_)
    refine rw_nil (hK23 _ _ ?_)
    refine hK21 _ _ ?_
    refine cw_cond rfl (fun h24 => ?_) (fun h24 => ?_)
    · -- then
      replace h24 := of_decide_eq_true h24
      refine cw_skip ?_
      refine hK19 _ _ ?_
      refine cw_seq fun K25 hK26 => ?_
      refine cw_block ?_
      refine cw_seq fun K27 hK28 => ?_
      refine cw_region fun K29 hK30 => ?_
      refine rw_cons (op_pv (w0 rfl) rfl rfl (pv_move (v := (.slice Ahs nhs chs)) rfl rfl) ?_)
      refine rw_cons (op_pv (w0 rfl) rfl rfl (pv_move (v := (.int .i64 (k : Int))) rfl rfl) ?_)
      refine rw_cons (op_pv (w0 rfl) rfl rfl (pv_idx Try.underlying24 T48 rfl rfl rfl (hRhs.some (k := k) (by omega)) (by omega) (by omega)) ?_)
      have hR31 : RS encI 1 w11 w.heap.size (el hs k).A (el hs k).n (el hs k).ps := hDhs.rs (k := k) (by omega)
      have hln32 := hR31.len
      refine rw_cons (op_lv (w0 rfl) rfl rfl (lv_loadN T48 rfl rfl rfl (fun j v hv => hRhs.cellE (k := k) (by omega) hv)) ?_)
      refine rw_cons (op_alloc T48 (w0 rfl) rfl rfl rfl ?_)
      rintro g34 w33 hg37 hg38 hB36 hch35
      have hsz39 := hch35.size
      replace hRhs := hRhs.ch0 hch35
      replace hDhs := hDhs.ch0 hch35
      replace hR31 := hR31.ch0 hch35
      replace hc := hc.step0 hch35
      replace hB36 : Blk w33 g34 48 [(.string ByteArray.empty), (.slice none 0 0)] := hB36
      refine rw_cons (op_store_blk T48 hB36 (w0 rfl) rfl rfl rfl rfl rfl (one_all rfl) (Nat.le_of_ble_eq_true rfl) ?_)
      rintro w40 hB42 hch41
      have hsz43 := hch41.size
      replace hRhs := hRhs.ch hch41 (off1 (by omega))
      replace hDhs := hDhs.ch hch41 (fun s hs => by simp at hs; subst hs; first | omega | (right; left; simp; done))
      replace hR31 := hR31.ch hch41 (off1 (by omega))
      replace hc := (off1 (by omega)).step hc hch41
      replace hB36 : Blk w40 g34 48 [(.string (el hs k).nm), (.slice (el hs k).A (el hs k).n (el hs k).c)] := hB42
      clear hB42
      refine rw_nil (hK30 _ _ ?_)
      refine hK28 _ _ ?_
      refine cw_seq fun K44 hK45 => ?_
      refine cw_seq fun K46 hK47 => ?_
      have hzk := hZhs k (by omega)
      refine cw_drawn (fun u => Ch [] w40 u) (.free 0 (.free 1 (.one 2 true (.free 3 (.free 4 (.free 5 (.free 6 (.free 7 (.free 8 (.free 9 (.free 10 (.free 11 (.free 12 (.free 13 (.free 14 (.free 15 (.free 16 (.free 17 (.free 18 (.free 19 (.free 20 (.free 21 (.free 22 (.free 23 (.free 24 (.done)))))))))))))))))))))))))) (by kernel_rfl) (by kernel_rfl) (Ch.refl _ _).drew fun K51 hK52 => ?_
      obtain ⟨w48, hw_, hch49, hsz50⟩ : ∃ w1 : World, w1 = w40.drew ∧ Ch [] w40 w1 ∧ w1.heap.size = w40.heap.size := ⟨_, rfl, (Ch.refl _ _).drew, rfl⟩
      rw [← hw_]; clear hw_
      have hr53 : Ch [] w40 w48 := hch49.sub (fun s hs => by cases hs)
      have hRhs_r := hRhs
      have hDhs_r := hDhs
      have hR31_r := hR31
      have hB36_r := hB36
      have hsz54 := hch49.size
      replace hRhs := hRhs.ch0 hch49
      replace hDhs := hDhs.ch0 hch49
      replace hR31 := hR31.ch0 hch49
      replace hB36 := hB36.ch0 hch49
      replace hc := hc.step0 hch49
      refine tw_free rfl (w0 rfl) rfl rfl (fun u hu => (pv_fld F48_0 rfl rfl : PV _ _ _ _) u) ?_
      refine tw_free rfl (w0 rfl) rfl rfl (fun u hu => lv_load T9 rfl rfl ((hB36_r.ch hu (by simp)).cellA (i := 0) rfl)) ?_
      refine tw_one rfl (op_call (w0 rfl) rfl rfl (rc_call C57 rfl rfl) (l21Name_ok (el hs k).nm _ (by omega)) ?_)
      rintro _ w55 ⟨rfl, hch56⟩
      have hsz57 := hch56.size
      replace hRhs := hRhs.ch0 hch56
      replace hDhs := hDhs.ch0 hch56
      replace hR31 := hR31.ch0 hch56
      replace hB36 := hB36.ch0 hch56
      replace hc := hc.step0 hch56
      replace hr53 := hr53.step0 hch56
      refine ⟨fun _ => hr53, ?_⟩
      refine tw_free rfl (w0 rfl) rfl rfl (fun u hu => (pv_not rfl rfl : PV _ _ _ _) u) ?_
      refine tw_free rfl (w0 rfl) rfl rfl (fun u hu => (pv_move (v := (.bool (!(dec (NameOK (el hs k).nm))))) rfl rfl : PV _ _ _ _) u) ?_
      refine tw_split 20 rfl (fun hb58 => ?_) (fun hb58 => ?_)
      · -- yes
        replace hb58 := not_t hb58
        replace hb58 := dec_f hb58
        refine tw_pass rfl (w1n2 rfl rfl rfl rfl) rfl rfl ?_
        refine tw_pass rfl (w1n2 rfl rfl rfl rfl) rfl rfl ?_
        refine tw_pass rfl (w1n2 rfl rfl rfl rfl) rfl rfl ?_
        refine tw_pass rfl (w1u rfl rfl rfl) rfl rfl ?_
        refine tw_pass rfl (w1u rfl rfl rfl) rfl rfl ?_
        refine tw_pass rfl (w1u rfl rfl rfl) rfl rfl ?_
        refine tw_pass rfl (w1u rfl rfl rfl) rfl rfl ?_
        refine tw_pass rfl (w1u rfl rfl rfl) rfl rfl ?_
        refine tw_pass rfl (w1u rfl rfl rfl) rfl rfl ?_
        refine tw_pass rfl (w1u rfl rfl rfl) rfl rfl ?_
        refine tw_pass rfl (w1u rfl rfl rfl) rfl rfl ?_
        refine tw_pass rfl (w1u rfl rfl rfl) rfl rfl ?_
        refine tw_pass rfl (w1n2 rfl rfl rfl rfl) rfl rfl ?_
        refine tw_free rfl (w0 rfl) rfl rfl (fun u hu => (pv_pickT (v := (.bool true)) rfl rfl rfl : PV _ _ _ _) u) ?_
        refine tw_free rfl (w0 rfl) rfl rfl (fun u hu => (pv_move (v := (.bool true)) rfl rfl : PV _ _ _ _) u) ?_
        refine tw_pass rfl (w1n2 rfl rfl rfl rfl) rfl rfl ?_
        refine tw_pass rfl (w1n2 rfl rfl rfl rfl) rfl rfl ?_
        refine tw_pass rfl (w1n2 rfl rfl rfl rfl) rfl rfl ?_
        refine tw_pass rfl (w1n2 rfl rfl rfl rfl) rfl rfl ?_
        refine tw_free rfl (w0 rfl) rfl rfl (fun u hu => (pv_pickT (v := (.bool true)) rfl rfl rfl : PV _ _ _ _) u) ?_
        try clear hB36_r
        try clear hDhs_r
        try clear hR31_r
        try clear hRhs_r
        refine tw_done (hK52 _ _ ?_)
        refine hK47 _ _ ?_
        refine cw_cond rfl (fun h59 => ?_) (fun h59 => ?_)
        · -- then
          clear h59
          refine cw_seq fun K60 hK61 => ?_
          refine cw_region fun K62 hK63 => ?_
          refine rw_cons (op_pv (w0 rfl) rfl rfl (pv_assign (v := (.bool false)) rfl rfl) ?_)
          refine rw_nil (hK63 _ _ ?_)
          refine hK61 _ _ ?_
          refine cw_ret ?_
          refine fin1 rfl ?_
          exact ⟨(bvf (fun h => files_not h hDhs k (by omega) (by first | exact .inl (by assumption) | exact .inr (.inl ⟨((k : Int) - 1).toNat, (by omega), by assumption⟩) | exact .inr (.inr (.inl (by omega)))))), hc⟩
        · -- else
          cases h59
      · -- no
        replace hb58 := not_f hb58
        replace hb58 := dec_t hb58
        refine tw_free rfl (w1y rfl rfl rfl rfl) rfl rfl (fun u hu => (pv_move (v := (.int .i64 (k : Int))) rfl rfl : PV _ _ _ _) u) ?_
        refine tw_free rfl (w1y rfl rfl rfl rfl) rfl rfl (fun u hu => (pv_gtr rfl rfl rfl : PV _ _ _ _) u) ?_
        refine tw_free rfl (w1y rfl rfl rfl rfl) rfl rfl (fun u hu => (pv_move (v := (.bool (decide (0 < (k : Int))))) rfl rfl : PV _ _ _ _) u) ?_
        refine tw_split 23 rfl (fun hb64 => ?_) (fun hb64 => ?_)
        · -- yes
          replace hb64 := of_decide_eq_true hb64
          refine tw_free rfl (w1y rfl rfl rfl rfl) rfl rfl (fun u hu => (pv_move (v := (.slice Ahs nhs chs)) rfl rfl : PV _ _ _ _) u) ?_
          refine tw_free rfl (w1y rfl rfl rfl rfl) rfl rfl (fun u hu => (pv_move (v := (.int .i64 (k : Int))) rfl rfl : PV _ _ _ _) u) ?_
          refine tw_free rfl (w1y rfl rfl rfl rfl) rfl rfl (fun u hu => (pv_sub rfl rfl rfl (by omega) (by omega) : PV _ _ _ _) u) ?_
          refine tw_free rfl (w1y rfl rfl rfl rfl) rfl rfl (fun u hu => (pv_idx Try.underlying24 T48 rfl rfl rfl (hRhs.some (k := ((k : Int) - 1).toNat) (by omega)) (by omega) (by omega) : PV _ _ _ _) u) ?_
          refine tw_free rfl (w1y rfl rfl rfl rfl) rfl rfl (fun u hu => (pv_fld F48_0 rfl rfl : PV _ _ _ _) u) ?_
          refine tw_free rfl (w1y rfl rfl rfl rfl) rfl rfl (fun u hu => lv_load T9 rfl rfl ((hRhs_r.ch0 hu).cellE (k := ((k : Int) - 1).toNat) (j := 0) (by omega) rfl)) ?_
          have hR65 : RS encI 1 w55 w.heap.size (el hs ((k : Int) - 1).toNat).A (el hs ((k : Int) - 1).toNat).n (el hs ((k : Int) - 1).toNat).ps := hDhs.rs (k := ((k : Int) - 1).toNat) (by omega)
          have hR65_r : RS encI 1 w40 w.heap.size (el hs ((k : Int) - 1).toNat).A (el hs ((k : Int) - 1).toNat).n (el hs ((k : Int) - 1).toNat).ps := hDhs_r.rs (k := ((k : Int) - 1).toNat) (by omega)
          have hln66 := hR65.len
          refine tw_free rfl (w1y rfl rfl rfl rfl) rfl rfl (fun u hu => (pv_fld F48_0 rfl rfl : PV _ _ _ _) u) ?_
          refine tw_free rfl (w1y rfl rfl rfl rfl) rfl rfl (fun u hu => lv_load T9 rfl rfl ((hB36_r.ch hu (by simp)).cellA (i := 0) rfl)) ?_
          refine tw_free rfl (w1y rfl rfl rfl rfl) rfl rfl (fun u hu => (pv_geS rfl rfl rfl : PV _ _ _ _) u) ?_
          refine tw_free rfl (w1y rfl rfl rfl rfl) rfl rfl (fun u hu => (pv_pickT (v := (.bool (!slt (el hs ((k : Int) - 1).toNat).nm (el hs k).nm))) rfl rfl rfl : PV _ _ _ _) u) ?_
          refine tw_free rfl (w0 rfl) rfl rfl (fun u hu => (pv_pickF (v := (.bool (!slt (el hs ((k : Int) - 1).toNat).nm (el hs k).nm))) rfl rfl rfl : PV _ _ _ _) u) ?_
          refine tw_free rfl (w0 rfl) rfl rfl (fun u hu => (pv_move (v := (.bool (!slt (el hs ((k : Int) - 1).toNat).nm (el hs k).nm))) rfl rfl : PV _ _ _ _) u) ?_
          refine tw_split 35 rfl (fun hb67 => ?_) (fun hb67 => ?_)
          · -- yes
            replace hb67 := not_t hb67
            refine tw_pass rfl (w1n2 rfl rfl rfl rfl) rfl rfl ?_
            refine tw_pass rfl (w1n2 rfl rfl rfl rfl) rfl rfl ?_
            refine tw_pass rfl (w1n2 rfl rfl rfl rfl) rfl rfl ?_
            refine tw_pass rfl (w1n2 rfl rfl rfl rfl) rfl rfl ?_
            refine tw_free rfl (w0 rfl) rfl rfl (fun u hu => (pv_pickT (v := (.bool true)) rfl rfl rfl : PV _ _ _ _) u) ?_
            try clear hB36_r
            try clear hDhs_r
            try clear hR31_r
            try clear hR65_r
            try clear hRhs_r
            refine tw_done (hK52 _ _ ?_)
            refine hK47 _ _ ?_
            refine cw_cond rfl (fun h68 => ?_) (fun h68 => ?_)
            · -- then
              clear h68
              refine cw_seq fun K69 hK70 => ?_
              refine cw_region fun K71 hK72 => ?_
              refine rw_cons (op_pv (w0 rfl) rfl rfl (pv_assign (v := (.bool false)) rfl rfl) ?_)
              refine rw_nil (hK72 _ _ ?_)
              refine hK70 _ _ ?_
              refine cw_ret ?_
              refine fin1 rfl ?_
              exact ⟨(bvf (fun h => files_not h hDhs k (by omega) (by first | exact .inl (by assumption) | exact .inr (.inl ⟨((k : Int) - 1).toNat, (by omega), by assumption⟩) | exact .inr (.inr (.inl (by omega)))))), hc⟩
            · -- else
              cases h68
          · -- no
            replace hb67 := not_f hb67
            refine tw_free rfl (w1y rfl rfl rfl rfl) rfl rfl (fun u hu => (pv_fld F48_1 rfl rfl : PV _ _ _ _) u) ?_
            refine tw_free rfl (w1y rfl rfl rfl rfl) rfl rfl (fun u hu => lv_load T25 rfl rfl ((hB36_r.ch hu (by simp)).cellA (i := 1) rfl)) ?_
            refine tw_free rfl (w1y rfl rfl rfl rfl) rfl rfl (fun u hu => (pv_len Try.underlying25 rfl rfl : PV _ _ _ _) u) ?_
            refine tw_free rfl (w1y rfl rfl rfl rfl) rfl rfl (fun u hu => (pv_gtr rfl rfl rfl : PV _ _ _ _) u) ?_
            refine tw_free rfl (w0 rfl) rfl rfl (fun u hu => (pv_pickF (v := (.bool (decide (4 < ((el hs k).n : Int))))) rfl rfl rfl : PV _ _ _ _) u) ?_
            try clear hB36_r
            try clear hDhs_r
            try clear hR31_r
            try clear hR65_r
            try clear hRhs_r
            refine tw_done (hK52 _ _ ?_)
            refine hK47 _ _ ?_
            refine cw_cond rfl (fun h73 => ?_) (fun h73 => ?_)
            · -- then
              replace h73 := of_decide_eq_true h73
              refine cw_seq fun K74 hK75 => ?_
              refine cw_region fun K76 hK77 => ?_
              refine rw_cons (op_pv (w0 rfl) rfl rfl (pv_assign (v := (.bool false)) rfl rfl) ?_)
              refine rw_nil (hK77 _ _ ?_)
              refine hK75 _ _ ?_
              refine cw_ret ?_
              refine fin1 rfl ?_
              exact ⟨(bvf (fun h => files_not h hDhs k (by omega) (by first | exact .inl (by assumption) | exact .inr (.inl ⟨((k : Int) - 1).toNat, (by omega), by assumption⟩) | exact .inr (.inr (.inl (by omega)))))), hc⟩
            · -- else
              replace h73 := of_decide_eq_false h73
              refine cw_skip ?_
              refine hK45 _ _ ?_
              refine cw_seq fun K78 hK79 => ?_
              refine cw_region fun K80 hK81 => ?_
              refine rw_cons (op_pv (w0 rfl) rfl rfl (pv_assign (v := (.int .i64 0)) rfl rfl) ?_)
              refine rw_nil (hK81 _ _ ?_)
              refine hK79 _ _ ?_
              refine cw_block ?_
              refine cw_loop (σ := Nat) (fun j => [(5, (.int .i64 (j : Int))), (0, (.slice Ahs nhs chs)), (3, (.int .i64 (k : Int))), (4, (.pointer (some (⟨g34, 0, none⟩)))), (6, (.int .i64 (k : Int))), (7, (.slice Ahs nhs chs)), (8, (.int .i64 (nhs : Int))), (9, (.bool (decide ((k : Int) < (nhs : Int))))), (12, (.slice Ahs nhs chs)), (13, (.int .i64 (k : Int))), (14, (.pointer (some ((adr Ahs).add (k * 2))))), (15, (.agg #[(.string (el hs k).nm), (.slice (el hs k).A (el hs k).n (el hs k).c)])), (16, (.pointer (some ((⟨g34, 0, none⟩ : Addr).add 0)))), (17, (.string (el hs k).nm)), (18, (.bool (dec (NameOK (el hs k).nm)))), (19, (.bool (!(dec (NameOK (el hs k).nm))))), (20, (.bool false)), (21, (.int .i64 (k : Int))), (22, (.bool (decide (0 < (k : Int))))), (23, (.bool true)), (24, (.slice Ahs nhs chs)), (25, (.int .i64 (k : Int))), (26, (.int .i64 ((k : Int) - 1))), (27, (.pointer (some ((adr Ahs).add (((k : Int) - 1).toNat * 2))))), (28, (.pointer (some (((adr Ahs).add (((k : Int) - 1).toNat * 2)).add 0)))), (29, (.string (el hs ((k : Int) - 1).toNat).nm)), (30, (.pointer (some ((⟨g34, 0, none⟩ : Addr).add 0)))), (31, (.string (el hs k).nm)), (32, (.bool (!slt (el hs ((k : Int) - 1).toNat).nm (el hs k).nm))), (33, (.bool (!slt (el hs ((k : Int) - 1).toNat).nm (el hs k).nm))), (34, (.bool (!slt (el hs ((k : Int) - 1).toNat).nm (el hs k).nm))), (35, (.bool false)), (36, (.pointer (some ((⟨g34, 0, none⟩ : Addr).add 1)))), (37, (.slice (el hs k).A (el hs k).n (el hs k).c)), (38, (.int .i64 ((el hs k).n : Int))), (39, (.bool (decide (4 < ((el hs k).n : Int))))), (40, (.bool (decide (4 < ((el hs k).n : Int)))))]) (fun j W => (j ≤ (el hs k).n ∧ ∀ i, i < j → (1 ≤ el (el hs k).ps i ∧ el (el hs k).ps i ≤ 99) ∧ many (fvs hs) (el (el hs k).ps i) = 1) ∧ RS encF 2 W w.heap.size Ahs nhs hs ∧ DX 0 w.heap.size ([]) W hs ∧ RS encI 1 W w.heap.size (el hs k).A (el hs k).n (el hs k).ps ∧ Blk W g34 48 [(.string (el hs k).nm), (.slice (el hs k).A (el hs k).n (el hs k).c)] ∧ RS encI 1 W w.heap.size (el hs ((k : Int) - 1).toNat).A (el hs ((k : Int) - 1).toNat).n (el hs ((k : Int) - 1).toNat).ps ∧ Ch [] w W) (fun j => (el hs k).n - j) 0 ?_ ?_ ?_
              · exact ⟨rfl, rfl, rfl, rfl, rfl, rfl, rfl, rfl, rfl, rfl, rfl, rfl, rfl, rfl, rfl, rfl, rfl, rfl, rfl, rfl, rfl, rfl, rfl, rfl, rfl, rfl, rfl, rfl, rfl, rfl, rfl, rfl, rfl, rfl, rfl, rfl, rfl, trivial⟩
              · refine ⟨⟨Nat.zero_le _, fun i hi => by omega⟩, hRhs, hDhs, hR31, hB36, hR65, hc⟩
              · rintro j J86 w82 ⟨⟨hj, hjj⟩, hRhs, hDhs, hR31, hB36, hR65, hc⟩ K83 hK84
                have hsz88 := hc.size
                refine cw_seq fun K89 hK90 => ?_
                refine cw_seq fun K91 hK92 => ?_
                refine cw_region fun K93 hK94 => ?_
                refine rw_cons (op_pv (w0 rfl) rfl rfl (pv_move (v := (.int .i64 (j : Int))) rfl rfl) ?_)
                refine rw_cons (op_pv (w0 rfl) rfl rfl (pv_fld F48_1 rfl rfl) ?_)
                refine rw_cons (op_lv (w0 rfl) rfl rfl (lv_load T25 rfl rfl (hB36.cellA (i := 1) rfl)) ?_)
                refine rw_cons (op_pv (w0 rfl) rfl rfl (pv_len Try.underlying25 rfl rfl) ?_)
                refine rw_cons (op_pv (w0 rfl) rfl rfl (pv_lss rfl rfl rfl) ?_)
                refine rw_nil (hK94 _ _ ?_)
                refine hK92 _ _ ?_
                refine cw_cond rfl (fun h95 => ?_) (fun h95 => ?_)
                · -- then
                  replace h95 := of_decide_eq_true h95
                  refine cw_skip ?_
                  refine hK90 _ _ ?_
                  refine cw_seq fun K96 hK97 => ?_
                  refine cw_block ?_
                  refine cw_seq fun K98 hK99 => ?_
                  refine cw_region fun K100 hK101 => ?_
                  refine rw_cons (op_pv (w0 rfl) rfl rfl (pv_fld F48_1 rfl rfl) ?_)
                  refine rw_cons (op_lv (w0 rfl) rfl rfl (lv_load T25 rfl rfl (hB36.cellA (i := 1) rfl)) ?_)
                  refine rw_cons (op_pv (w0 rfl) rfl rfl (pv_move (v := (.int .i64 (j : Int))) rfl rfl) ?_)
                  refine rw_cons (op_pv (w0 rfl) rfl rfl (pv_idx Try.underlying25 T3 rfl rfl rfl (hR31.some (k := j) (by omega)) (by omega) (by omega)) ?_)
                  refine rw_cons (op_lv (w0 rfl) rfl rfl (lv_load T3 rfl rfl (hR31.cell0 (k := j) (by omega) rfl)) ?_)
                  refine rw_cons (op_call (w0 rfl) rfl rfl (rc_call C58 rfl rfl) (l6In_ok (el (el hs k).ps j) 1 99 _  ) ?_)
                  rintro _ w102 ⟨rfl, hch103⟩
                  have hsz104 := hch103.size
                  replace hRhs := hRhs.ch0 hch103
                  replace hDhs := hDhs.ch0 hch103
                  replace hR31 := hR31.ch0 hch103
                  replace hB36 := hB36.ch0 hch103
                  replace hR65 := hR65.ch0 hch103
                  replace hc := hc.step0 hch103
                  refine rw_cons (op_pv (w0 rfl) rfl rfl (pv_not rfl rfl) ?_)
                  refine rw_cons (op_pv (w0 rfl) rfl rfl (pv_move (v := (.bool (!(dec (1 ≤ (el (el hs k).ps j) ∧ (el (el hs k).ps j) ≤ 99))))) rfl rfl) ?_)
                  refine rw_split 55 rfl (fun hb105 => ?_) (fun hb105 => ?_)
                  · -- yes
                    replace hb105 := not_t hb105
                    replace hb105 := dec_f hb105
                    refine rw_cons (op_pass (w1n2 rfl rfl rfl rfl) rfl rfl ?_)
                    refine rw_cons (op_pass (w1n2 rfl rfl rfl rfl) rfl rfl ?_)
                    refine rw_cons (op_pass (w1n2 rfl rfl rfl rfl) rfl rfl ?_)
                    refine rw_cons (op_pass (w1n2 rfl rfl rfl rfl) rfl rfl ?_)
                    refine rw_cons (op_pass (w1n2 rfl rfl rfl rfl) rfl rfl ?_)
                    refine rw_cons (op_pass (w1n2 rfl rfl rfl rfl) rfl rfl ?_)
                    refine rw_cons (op_pass (w1n2 rfl rfl rfl rfl) rfl rfl ?_)
                    refine rw_cons (op_pass (w1n2 rfl rfl rfl rfl) rfl rfl ?_)
                    refine rw_cons (op_pv (w0 rfl) rfl rfl (pv_pickT (v := (.bool true)) rfl rfl rfl) ?_)
                    refine rw_nil (hK101 _ _ ?_)
                    refine hK99 _ _ ?_
                    refine cw_cond rfl (fun h106 => ?_) (fun h106 => ?_)
                    · -- then
                      clear h106
                      refine cw_seq fun K107 hK108 => ?_
                      refine cw_region fun K109 hK110 => ?_
                      refine rw_cons (op_pv (w0 rfl) rfl rfl (pv_assign (v := (.bool false)) rfl rfl) ?_)
                      refine rw_nil (hK110 _ _ ?_)
                      refine hK108 _ _ ?_
                      refine cw_ret ?_
                      refine fin1 rfl ?_
                      exact ⟨(bvf (fun h => files_not h hDhs k (by omega) (by first | exact .inr (.inr (.inr ⟨j, by omega, .inl (by assumption)⟩)) | exact .inr (.inr (.inr ⟨j, by omega, .inr (by omega)⟩))))), hc⟩
                    · -- else
                      cases h106
                  · -- no
                    replace hb105 := not_f hb105
                    replace hb105 := dec_t hb105
                    refine rw_cons (op_pv (w1y rfl rfl rfl rfl) rfl rfl (pv_move (v := (.slice Ahs nhs chs)) rfl rfl) ?_)
                    refine rw_cons (op_pv (w1y rfl rfl rfl rfl) rfl rfl (pv_fld F48_1 rfl rfl) ?_)
                    refine rw_cons (op_lv (w1y rfl rfl rfl rfl) rfl rfl (lv_load T25 rfl rfl (hB36.cellA (i := 1) rfl)) ?_)
                    refine rw_cons (op_pv (w1y rfl rfl rfl rfl) rfl rfl (pv_move (v := (.int .i64 (j : Int))) rfl rfl) ?_)
                    refine rw_cons (op_pv (w1y rfl rfl rfl rfl) rfl rfl (pv_idx Try.underlying25 T3 rfl rfl rfl (hR31.some (k := j) (by omega)) (by omega) (by omega)) ?_)
                    refine rw_cons (op_lv (w1y rfl rfl rfl rfl) rfl rfl (lv_load T3 rfl rfl (hR31.cell0 (k := j) (by omega) rfl)) ?_)
                    refine rw_cons (op_call (w1y rfl rfl rfl rfl) rfl rfl (rc_call C59 rfl rfl) (l21Many_ok _ nhs _ hs (el (el hs k).ps j) _ (hRhs.more (by omega)) (hDhs.any (by omega)) (by first | assumption | exact SzOK.nil) (by omega) (by omega)) ?_)
                    rintro _ w111 ⟨rfl, hch112⟩
                    have hsz113 := hch112.size
                    replace hRhs := hRhs.ch0 hch112
                    replace hDhs := hDhs.ch0 hch112
                    replace hR31 := hR31.ch0 hch112
                    replace hB36 := hB36.ch0 hch112
                    replace hR65 := hR65.ch0 hch112
                    replace hc := hc.step0 hch112
                    refine rw_cons (op_pv (w1y rfl rfl rfl rfl) rfl rfl (pv_neq rfl rfl rfl) ?_)
                    refine rw_cons (op_pv (w0 rfl) rfl rfl (pv_pickF (v := (.bool (decide ((((many (fvs hs) (el (el hs k).ps j) : Nat) : Int) : Int) ≠ 1)))) rfl rfl rfl) ?_)
                    refine rw_nil (hK101 _ _ ?_)
                    refine hK99 _ _ ?_
                    refine cw_cond rfl (fun h114 => ?_) (fun h114 => ?_)
                    · -- then
                      replace h114 := of_decide_eq_true h114
                      refine cw_seq fun K115 hK116 => ?_
                      refine cw_region fun K117 hK118 => ?_
                      refine rw_cons (op_pv (w0 rfl) rfl rfl (pv_assign (v := (.bool false)) rfl rfl) ?_)
                      refine rw_nil (hK118 _ _ ?_)
                      refine hK116 _ _ ?_
                      refine cw_ret ?_
                      refine fin1 rfl ?_
                      exact ⟨(bvf (fun h => files_not h hDhs k (by omega) (by first | exact .inr (.inr (.inr ⟨j, by omega, .inl (by assumption)⟩)) | exact .inr (.inr (.inr ⟨j, by omega, .inr (by omega)⟩))))), hc⟩
                    · -- else
                      replace h114 := of_decide_eq_false h114
                      refine cw_skip ?_
                      refine hK97 _ _ ?_
                      refine cw_region fun K119 hK120 => ?_
                      refine rw_cons (op_pv (w0 rfl) rfl rfl (pv_move (v := (.int .i64 (j : Int))) rfl rfl) ?_)
                      refine rw_cons (op_pv (w0 rfl) rfl rfl (pv_add rfl rfl rfl (by omega) (by omega)) ?_)
                      refine rw_cons (op_pv (w0 rfl) rfl rfl (pv_assign (v := (.int .i64 ((j : Int) + 1))) rfl rfl) ?_)
                      refine rw_nil (hK120 _ _ ?_)
                      refine hK84 _ _ (j + 1) ⟨(iv (by omega)), rfl, rfl, rfl, rfl, rfl, rfl, rfl, rfl, rfl, rfl, rfl, rfl, rfl, rfl, rfl, rfl, rfl, rfl, rfl, rfl, rfl, rfl, rfl, rfl, rfl, rfl, rfl, rfl, rfl, rfl, rfl, rfl, rfl, rfl, rfl, rfl, trivial⟩ ⟨?_, hRhs, hDhs, hR31, hB36, hR65, hc⟩ ?_
                      · refine ⟨by omega, fun i hi => ?_⟩
                        by_cases e : i = j
                        · subst e; exact ⟨by assumption, by omega⟩
                        · exact hjj i (by omega)
                      · (first | omega | (simp only []; omega))
                · -- else
                  replace h95 := of_decide_eq_false h95
                  refine cw_exit ?_
                  refine hK26 _ _ ?_
                  refine cw_region fun K121 hK122 => ?_
                  refine rw_cons (op_pv (w0 rfl) rfl rfl (pv_move (v := (.int .i64 (k : Int))) rfl rfl) ?_)
                  refine rw_cons (op_pv (w0 rfl) rfl rfl (pv_add rfl rfl rfl (by omega) (by omega)) ?_)
                  refine rw_cons (op_pv (w0 rfl) rfl rfl (pv_assign (v := (.int .i64 ((k : Int) + 1))) rfl rfl) ?_)
                  refine rw_nil (hK122 _ _ ?_)
                  refine hK13 _ _ (k + 1) ⟨(iv (by omega)), rfl, trivial⟩ ⟨?_, hRhs, hDhs, hc⟩ ?_
                  · refine ⟨by omega, fun q hq => ?_⟩
                    by_cases e : q = k
                    · subst e; exact ⟨⟨by assumption, by omega, fun i hi => hjj i (by omega)⟩, fun j hj => by first | (exfalso; omega) | (obtain rfl : j = ((q : Int) - 1).toNat := (by omega); assumption)⟩
                    · exact hye q (by omega)
                  · (first | omega | (simp only []; omega))
        · -- no
          replace hb64 := of_decide_eq_false hb64
          refine tw_pass rfl (w1n1 rfl rfl rfl rfl) rfl rfl ?_
          refine tw_pass rfl (w1n1 rfl rfl rfl rfl) rfl rfl ?_
          refine tw_pass rfl (w1n1 rfl rfl rfl rfl) rfl rfl ?_
          refine tw_pass rfl (w1n1 rfl rfl rfl rfl) rfl rfl ?_
          refine tw_pass rfl (w1n1 rfl rfl rfl rfl) rfl rfl ?_
          refine tw_pass rfl (w1n1 rfl rfl rfl rfl) rfl rfl ?_
          refine tw_pass rfl (w1n1 rfl rfl rfl rfl) rfl rfl ?_
          refine tw_pass rfl (w1n1 rfl rfl rfl rfl) rfl rfl ?_
          refine tw_pass rfl (w1n1 rfl rfl rfl rfl) rfl rfl ?_
          refine tw_free rfl (w1y rfl rfl rfl rfl) rfl rfl (fun u hu => (pv_pickF (v := (.bool false)) rfl rfl rfl : PV _ _ _ _) u) ?_
          refine tw_free rfl (w0 rfl) rfl rfl (fun u hu => (pv_pickF (v := (.bool false)) rfl rfl rfl : PV _ _ _ _) u) ?_
          refine tw_free rfl (w0 rfl) rfl rfl (fun u hu => (pv_move (v := (.bool false)) rfl rfl : PV _ _ _ _) u) ?_
          refine tw_free rfl (w1y rfl rfl rfl rfl) rfl rfl (fun u hu => (pv_fld F48_1 rfl rfl : PV _ _ _ _) u) ?_
          refine tw_free rfl (w1y rfl rfl rfl rfl) rfl rfl (fun u hu => lv_load T25 rfl rfl ((hB36_r.ch hu (by simp)).cellA (i := 1) rfl)) ?_
          refine tw_free rfl (w1y rfl rfl rfl rfl) rfl rfl (fun u hu => (pv_len Try.underlying25 rfl rfl : PV _ _ _ _) u) ?_
          refine tw_free rfl (w1y rfl rfl rfl rfl) rfl rfl (fun u hu => (pv_gtr rfl rfl rfl : PV _ _ _ _) u) ?_
          refine tw_free rfl (w0 rfl) rfl rfl (fun u hu => (pv_pickF (v := (.bool (decide (4 < ((el hs k).n : Int))))) rfl rfl rfl : PV _ _ _ _) u) ?_
          try clear hB36_r
          try clear hDhs_r
          try clear hR31_r
          try clear hR65_r
          try clear hRhs_r
          refine tw_done (hK52 _ _ ?_)
          refine hK47 _ _ ?_
          refine cw_cond rfl (fun h123 => ?_) (fun h123 => ?_)
          · -- then
            replace h123 := of_decide_eq_true h123
            refine cw_seq fun K124 hK125 => ?_
            refine cw_region fun K126 hK127 => ?_
            refine rw_cons (op_pv (w0 rfl) rfl rfl (pv_assign (v := (.bool false)) rfl rfl) ?_)
            refine rw_nil (hK127 _ _ ?_)
            refine hK125 _ _ ?_
            refine cw_ret ?_
            refine fin1 rfl ?_
            exact ⟨(bvf (fun h => files_not h hDhs k (by omega) (by first | exact .inl (by assumption) | exact .inr (.inl ⟨((k : Int) - 1).toNat, (by omega), by assumption⟩) | exact .inr (.inr (.inl (by omega)))))), hc⟩
          · -- else
            replace h123 := of_decide_eq_false h123
            refine cw_skip ?_
            refine hK45 _ _ ?_
            refine cw_seq fun K128 hK129 => ?_
            refine cw_region fun K130 hK131 => ?_
            refine rw_cons (op_pv (w0 rfl) rfl rfl (pv_assign (v := (.int .i64 0)) rfl rfl) ?_)
            refine rw_nil (hK131 _ _ ?_)
            refine hK129 _ _ ?_
            refine cw_block ?_
            refine cw_loop (σ := Nat) (fun j => [(5, (.int .i64 (j : Int))), (0, (.slice Ahs nhs chs)), (3, (.int .i64 (k : Int))), (4, (.pointer (some (⟨g34, 0, none⟩)))), (6, (.int .i64 (k : Int))), (7, (.slice Ahs nhs chs)), (8, (.int .i64 (nhs : Int))), (9, (.bool (decide ((k : Int) < (nhs : Int))))), (12, (.slice Ahs nhs chs)), (13, (.int .i64 (k : Int))), (14, (.pointer (some ((adr Ahs).add (k * 2))))), (15, (.agg #[(.string (el hs k).nm), (.slice (el hs k).A (el hs k).n (el hs k).c)])), (16, (.pointer (some ((⟨g34, 0, none⟩ : Addr).add 0)))), (17, (.string (el hs k).nm)), (18, (.bool (dec (NameOK (el hs k).nm)))), (19, (.bool (!(dec (NameOK (el hs k).nm))))), (20, (.bool false)), (21, (.int .i64 (k : Int))), (22, (.bool (decide (0 < (k : Int))))), (23, (.bool false)), (33, (.bool false)), (34, (.bool false)), (35, (.bool false)), (36, (.pointer (some ((⟨g34, 0, none⟩ : Addr).add 1)))), (37, (.slice (el hs k).A (el hs k).n (el hs k).c)), (38, (.int .i64 ((el hs k).n : Int))), (39, (.bool (decide (4 < ((el hs k).n : Int))))), (40, (.bool (decide (4 < ((el hs k).n : Int)))))]) (fun j W => (j ≤ (el hs k).n ∧ ∀ i, i < j → (1 ≤ el (el hs k).ps i ∧ el (el hs k).ps i ≤ 99) ∧ many (fvs hs) (el (el hs k).ps i) = 1) ∧ RS encF 2 W w.heap.size Ahs nhs hs ∧ DX 0 w.heap.size ([]) W hs ∧ RS encI 1 W w.heap.size (el hs k).A (el hs k).n (el hs k).ps ∧ Blk W g34 48 [(.string (el hs k).nm), (.slice (el hs k).A (el hs k).n (el hs k).c)] ∧ Ch [] w W) (fun j => (el hs k).n - j) 0 ?_ ?_ ?_
            · exact ⟨rfl, rfl, rfl, rfl, rfl, rfl, rfl, rfl, rfl, rfl, rfl, rfl, rfl, rfl, rfl, rfl, rfl, rfl, rfl, rfl, rfl, rfl, rfl, rfl, rfl, rfl, rfl, rfl, trivial⟩
            · refine ⟨⟨Nat.zero_le _, fun i hi => by omega⟩, hRhs, hDhs, hR31, hB36, hc⟩
            · rintro j J136 w132 ⟨⟨hj, hjj⟩, hRhs, hDhs, hR31, hB36, hc⟩ K133 hK134
              have hsz138 := hc.size
              refine cw_seq fun K139 hK140 => ?_
              refine cw_seq fun K141 hK142 => ?_
              refine cw_region fun K143 hK144 => ?_
              refine rw_cons (op_pv (w0 rfl) rfl rfl (pv_move (v := (.int .i64 (j : Int))) rfl rfl) ?_)
              refine rw_cons (op_pv (w0 rfl) rfl rfl (pv_fld F48_1 rfl rfl) ?_)
              refine rw_cons (op_lv (w0 rfl) rfl rfl (lv_load T25 rfl rfl (hB36.cellA (i := 1) rfl)) ?_)
              refine rw_cons (op_pv (w0 rfl) rfl rfl (pv_len Try.underlying25 rfl rfl) ?_)
              refine rw_cons (op_pv (w0 rfl) rfl rfl (pv_lss rfl rfl rfl) ?_)
              refine rw_nil (hK144 _ _ ?_)
              refine hK142 _ _ ?_
              refine cw_cond rfl (fun h145 => ?_) (fun h145 => ?_)
              · -- then
                replace h145 := of_decide_eq_true h145
                refine cw_skip ?_
                refine hK140 _ _ ?_
                refine cw_seq fun K146 hK147 => ?_
                refine cw_block ?_
                refine cw_seq fun K148 hK149 => ?_
                refine cw_region fun K150 hK151 => ?_
                refine rw_cons (op_pv (w0 rfl) rfl rfl (pv_fld F48_1 rfl rfl) ?_)
                refine rw_cons (op_lv (w0 rfl) rfl rfl (lv_load T25 rfl rfl (hB36.cellA (i := 1) rfl)) ?_)
                refine rw_cons (op_pv (w0 rfl) rfl rfl (pv_move (v := (.int .i64 (j : Int))) rfl rfl) ?_)
                refine rw_cons (op_pv (w0 rfl) rfl rfl (pv_idx Try.underlying25 T3 rfl rfl rfl (hR31.some (k := j) (by omega)) (by omega) (by omega)) ?_)
                refine rw_cons (op_lv (w0 rfl) rfl rfl (lv_load T3 rfl rfl (hR31.cell0 (k := j) (by omega) rfl)) ?_)
                refine rw_cons (op_call (w0 rfl) rfl rfl (rc_call C58 rfl rfl) (l6In_ok (el (el hs k).ps j) 1 99 _  ) ?_)
                rintro _ w152 ⟨rfl, hch153⟩
                have hsz154 := hch153.size
                replace hRhs := hRhs.ch0 hch153
                replace hDhs := hDhs.ch0 hch153
                replace hR31 := hR31.ch0 hch153
                replace hB36 := hB36.ch0 hch153
                replace hc := hc.step0 hch153
                refine rw_cons (op_pv (w0 rfl) rfl rfl (pv_not rfl rfl) ?_)
                refine rw_cons (op_pv (w0 rfl) rfl rfl (pv_move (v := (.bool (!(dec (1 ≤ (el (el hs k).ps j) ∧ (el (el hs k).ps j) ≤ 99))))) rfl rfl) ?_)
                refine rw_split 55 rfl (fun hb155 => ?_) (fun hb155 => ?_)
                · -- yes
                  replace hb155 := not_t hb155
                  replace hb155 := dec_f hb155
                  refine rw_cons (op_pass (w1n2 rfl rfl rfl rfl) rfl rfl ?_)
                  refine rw_cons (op_pass (w1n2 rfl rfl rfl rfl) rfl rfl ?_)
                  refine rw_cons (op_pass (w1n2 rfl rfl rfl rfl) rfl rfl ?_)
                  refine rw_cons (op_pass (w1n2 rfl rfl rfl rfl) rfl rfl ?_)
                  refine rw_cons (op_pass (w1n2 rfl rfl rfl rfl) rfl rfl ?_)
                  refine rw_cons (op_pass (w1n2 rfl rfl rfl rfl) rfl rfl ?_)
                  refine rw_cons (op_pass (w1n2 rfl rfl rfl rfl) rfl rfl ?_)
                  refine rw_cons (op_pass (w1n2 rfl rfl rfl rfl) rfl rfl ?_)
                  refine rw_cons (op_pv (w0 rfl) rfl rfl (pv_pickT (v := (.bool true)) rfl rfl rfl) ?_)
                  refine rw_nil (hK151 _ _ ?_)
                  refine hK149 _ _ ?_
                  refine cw_cond rfl (fun h156 => ?_) (fun h156 => ?_)
                  · -- then
                    clear h156
                    refine cw_seq fun K157 hK158 => ?_
                    refine cw_region fun K159 hK160 => ?_
                    refine rw_cons (op_pv (w0 rfl) rfl rfl (pv_assign (v := (.bool false)) rfl rfl) ?_)
                    refine rw_nil (hK160 _ _ ?_)
                    refine hK158 _ _ ?_
                    refine cw_ret ?_
                    refine fin1 rfl ?_
                    exact ⟨(bvf (fun h => files_not h hDhs k (by omega) (by first | exact .inr (.inr (.inr ⟨j, by omega, .inl (by assumption)⟩)) | exact .inr (.inr (.inr ⟨j, by omega, .inr (by omega)⟩))))), hc⟩
                  · -- else
                    cases h156
                · -- no
                  replace hb155 := not_f hb155
                  replace hb155 := dec_t hb155
                  refine rw_cons (op_pv (w1y rfl rfl rfl rfl) rfl rfl (pv_move (v := (.slice Ahs nhs chs)) rfl rfl) ?_)
                  refine rw_cons (op_pv (w1y rfl rfl rfl rfl) rfl rfl (pv_fld F48_1 rfl rfl) ?_)
                  refine rw_cons (op_lv (w1y rfl rfl rfl rfl) rfl rfl (lv_load T25 rfl rfl (hB36.cellA (i := 1) rfl)) ?_)
                  refine rw_cons (op_pv (w1y rfl rfl rfl rfl) rfl rfl (pv_move (v := (.int .i64 (j : Int))) rfl rfl) ?_)
                  refine rw_cons (op_pv (w1y rfl rfl rfl rfl) rfl rfl (pv_idx Try.underlying25 T3 rfl rfl rfl (hR31.some (k := j) (by omega)) (by omega) (by omega)) ?_)
                  refine rw_cons (op_lv (w1y rfl rfl rfl rfl) rfl rfl (lv_load T3 rfl rfl (hR31.cell0 (k := j) (by omega) rfl)) ?_)
                  refine rw_cons (op_call (w1y rfl rfl rfl rfl) rfl rfl (rc_call C59 rfl rfl) (l21Many_ok _ nhs _ hs (el (el hs k).ps j) _ (hRhs.more (by omega)) (hDhs.any (by omega)) (by first | assumption | exact SzOK.nil) (by omega) (by omega)) ?_)
                  rintro _ w161 ⟨rfl, hch162⟩
                  have hsz163 := hch162.size
                  replace hRhs := hRhs.ch0 hch162
                  replace hDhs := hDhs.ch0 hch162
                  replace hR31 := hR31.ch0 hch162
                  replace hB36 := hB36.ch0 hch162
                  replace hc := hc.step0 hch162
                  refine rw_cons (op_pv (w1y rfl rfl rfl rfl) rfl rfl (pv_neq rfl rfl rfl) ?_)
                  refine rw_cons (op_pv (w0 rfl) rfl rfl (pv_pickF (v := (.bool (decide ((((many (fvs hs) (el (el hs k).ps j) : Nat) : Int) : Int) ≠ 1)))) rfl rfl rfl) ?_)
                  refine rw_nil (hK151 _ _ ?_)
                  refine hK149 _ _ ?_
                  refine cw_cond rfl (fun h164 => ?_) (fun h164 => ?_)
                  · -- then
                    replace h164 := of_decide_eq_true h164
                    refine cw_seq fun K165 hK166 => ?_
                    refine cw_region fun K167 hK168 => ?_
                    refine rw_cons (op_pv (w0 rfl) rfl rfl (pv_assign (v := (.bool false)) rfl rfl) ?_)
                    refine rw_nil (hK168 _ _ ?_)
                    refine hK166 _ _ ?_
                    refine cw_ret ?_
                    refine fin1 rfl ?_
                    exact ⟨(bvf (fun h => files_not h hDhs k (by omega) (by first | exact .inr (.inr (.inr ⟨j, by omega, .inl (by assumption)⟩)) | exact .inr (.inr (.inr ⟨j, by omega, .inr (by omega)⟩))))), hc⟩
                  · -- else
                    replace h164 := of_decide_eq_false h164
                    refine cw_skip ?_
                    refine hK147 _ _ ?_
                    refine cw_region fun K169 hK170 => ?_
                    refine rw_cons (op_pv (w0 rfl) rfl rfl (pv_move (v := (.int .i64 (j : Int))) rfl rfl) ?_)
                    refine rw_cons (op_pv (w0 rfl) rfl rfl (pv_add rfl rfl rfl (by omega) (by omega)) ?_)
                    refine rw_cons (op_pv (w0 rfl) rfl rfl (pv_assign (v := (.int .i64 ((j : Int) + 1))) rfl rfl) ?_)
                    refine rw_nil (hK170 _ _ ?_)
                    refine hK134 _ _ (j + 1) ⟨(iv (by omega)), rfl, rfl, rfl, rfl, rfl, rfl, rfl, rfl, rfl, rfl, rfl, rfl, rfl, rfl, rfl, rfl, rfl, rfl, rfl, rfl, rfl, rfl, rfl, rfl, rfl, rfl, rfl, trivial⟩ ⟨?_, hRhs, hDhs, hR31, hB36, hc⟩ ?_
                    · refine ⟨by omega, fun i hi => ?_⟩
                      by_cases e : i = j
                      · subst e; exact ⟨by assumption, by omega⟩
                      · exact hjj i (by omega)
                    · (first | omega | (simp only []; omega))
              · -- else
                replace h145 := of_decide_eq_false h145
                refine cw_exit ?_
                refine hK26 _ _ ?_
                refine cw_region fun K171 hK172 => ?_
                refine rw_cons (op_pv (w0 rfl) rfl rfl (pv_move (v := (.int .i64 (k : Int))) rfl rfl) ?_)
                refine rw_cons (op_pv (w0 rfl) rfl rfl (pv_add rfl rfl rfl (by omega) (by omega)) ?_)
                refine rw_cons (op_pv (w0 rfl) rfl rfl (pv_assign (v := (.int .i64 ((k : Int) + 1))) rfl rfl) ?_)
                refine rw_nil (hK172 _ _ ?_)
                refine hK13 _ _ (k + 1) ⟨(iv (by omega)), rfl, trivial⟩ ⟨?_, hRhs, hDhs, hc⟩ ?_
                · refine ⟨by omega, fun q hq => ?_⟩
                  by_cases e : q = k
                  · subst e; exact ⟨⟨by assumption, by omega, fun i hi => hjj i (by omega)⟩, fun j hj => by first | (exfalso; omega) | (obtain rfl : j = ((q : Int) - 1).toNat := (by omega); assumption)⟩
                  · exact hye q (by omega)
                · (first | omega | (simp only []; omega))
    · -- else
      replace h24 := of_decide_eq_false h24
      refine cw_exit ?_
      refine hK6 _ _ ?_
      refine cw_seq fun K173 hK174 => ?_
      refine cw_region fun K175 hK176 => ?_
      refine rw_cons (op_pv (w0 rfl) rfl rfl (pv_move (v := (.slice Ahs nhs chs)) rfl rfl) ?_)
      refine rw_cons (op_pv (w0 rfl) rfl rfl (pv_len Try.underlying24 rfl rfl) ?_)
      refine rw_cons (op_pv (w0 rfl) rfl rfl (pv_leq rfl rfl rfl) ?_)
      refine rw_cons (op_pv (w0 rfl) rfl rfl (pv_assign (v := (.bool (decide ((nhs : Int) ≤ 8)))) rfl rfl) ?_)
      refine rw_nil (hK176 _ _ ?_)
      refine hK174 _ _ ?_
      refine cw_ret ?_
      refine fin1 rfl ?_
      exact ⟨(bv (dec_dec (files_all hDhs (by omega) (fun q hq => hye q (by omega))))), hc⟩
end Go.Proofs.Ythgnlljpjpklpaa

/-
  The walk of (*impl.serverHeap).Pop, written by program: each line names the law of one operation. Conditions: those of the theorem.
-/
import Derived.Test.YtielahdnccocdaaProg
import Derived.Test.YtielahdnccocdaaRank
import Derived.Test.YtielahdnccocdaaIface
import Derived.Test.YtielahdnccocdaaFimplserverHeapLen
import Derived.Test.YtielahdnccocdaaFimplserverHeapLess
import Derived.Test.YtielahdnccocdaaFimplserverHeapSwap
import Derived.KernelRfl
namespace Go.Proofs.Ytielahdnccocdaa
open Go Go.RowKit
set_option linter.unusedVariables false
set_option linter.unusedSimpArgs false
namespace heapPopM_okF
theorem T50 : TI Try.prog 50 false (.slice none 0 0) 1 24 := TI.mk' Try.underlying50 rfl (by kernel_rfl)
theorem T53 : TI Try.prog 53 true (.agg #[.int .i64 0, .int .i64 0]) 2 16 := TI.mk' Try.underlying53 rfl (by kernel_rfl)
end heapPopM_okF
open heapPopM_okF in
set_option maxHeartbeats 4000000 in
theorem heapPopM_ok (g base : Nat) (A : Option Addr) (n c : Nat) (hs : List Bt) (w : World) (hB : Blk w g 50 [(.slice A n c)]) (hO : Own encB 2 w base 53 (.slice A n c) hs) (hgo : ∀ s ∈ obl (.slice A n c), s ≠ g) (hb : base ≤ w.heap.size) (hN : n ≤ 1000) (hn0 : 0 < n) :
    Fn Try.prog 59 [(.pointer (some (⟨g, 0, none⟩)))] w fun v w' => v = .iface 53 (.agg #[.int .i64 (el hs (n - 1)).s, .int .i64 (el hs (n - 1)).a]) ∧ Blk w' g 50 [.slice A (n - 1) c] ∧ Own encB 2 w' base 53 (.slice A n c) hs ∧ Ch [g] w w' := by
  have hub := hO.lt
  have hub0 := hO.lt
  have hlen := hO.le.2.2
  have hglt := hB.lt
  have hcap := hO.le.1
  refine fn_of (n := 25) Try.func59 rfl rfl rfl rfl ?_
  have hc : Ch [g] w w := Ch.refl _ _
  refine cw_seq fun K1 hK2 => ?_
  refine cw_region fun K3 hK4 => ?_
  refine rw_cons (op_pv (w0 rfl) rfl rfl (pv_assign (v := .nilIface) rfl rfl) ?_)
  refine rw_nil (hK4 _ _ ?_)
  refine hK2 _ _ ?_
  refine cw_seq fun K5 hK6 => ?_
  refine cw_region fun K7 hK8 => ?_
  refine rw_cons (op_pv (w0 rfl) rfl rfl (pv_move (v := (.pointer (some (⟨g, 0, none⟩)))) rfl rfl) ?_)
  refine rw_cons (op_pv (w0 rfl) rfl rfl (pv_nil rfl rfl) ?_)
  refine rw_cons (op_lv (w0 rfl) rfl rfl (lv_load T50 rfl rfl (hB.cell (i := 0) rfl)) ?_)
  refine rw_cons (op_pv (w0 rfl) rfl rfl (pv_len Try.underlying50 rfl rfl) ?_)
  refine rw_cons (op_pv (w0 rfl) rfl rfl (pv_sub rfl rfl rfl (by omega) (by omega)) ?_)
  obtain ⟨d9, hd10⟩ : ∃ d : Nat, (n : Int) - 1 = (d : Int) := ⟨((n : Int) - 1).toNat, by omega⟩
  rw [hd10]
  refine rw_cons (op_pv (w0 rfl) rfl rfl (pv_assign (v := (.int .i64 (d9 : Int))) rfl rfl) ?_)
  refine rw_nil (hK8 _ _ ?_)
  refine hK6 _ _ ?_
  refine cw_seq fun K11 hK12 => ?_
  refine cw_region fun K13 hK14 => ?_
  refine rw_cons (op_pv (w0 rfl) rfl rfl (pv_move (v := (.pointer (some (⟨g, 0, none⟩)))) rfl rfl) ?_)
  refine rw_cons (op_pv (w0 rfl) rfl rfl (pv_nil rfl rfl) ?_)
  refine rw_cons (op_lv (w0 rfl) rfl rfl (lv_load T50 rfl rfl (hB.cell (i := 0) rfl)) ?_)
  refine rw_cons (op_pv (w0 rfl) rfl rfl (pv_move (v := (.int .i64 (d9 : Int))) rfl rfl) ?_)
  refine rw_cons (op_pv (w0 rfl) rfl rfl (pv_idx Try.underlying50 T53 rfl rfl rfl ((hO.rs (fun _ => rfl)).some (k := d9) (by omega)) (by omega) (by omega)) ?_)
  refine rw_cons (op_lv (w0 rfl) rfl rfl (lv_loadN T53 rfl rfl rfl (fun j v hv => (hO.rs (fun _ => rfl)).cellE (k := d9) (by omega) hv)) ?_)
  refine rw_cons (op_alloc T53 (w0 rfl) rfl rfl rfl ?_)
  rintro g16 w15 hg19 hg20 hB18 hch17
  have hsz21 := hch17.size
  replace hB := hB.ch0 hch17
  replace hO := hO.ch0 hch17
  replace hc := hc.step0 hch17
  replace hB18 : Blk w15 g16 53 [(.int .i64 0), (.int .i64 0)] := hB18
  have hdj22 : ∀ s ∈ obl (.slice A n c), s ≠ g16 := fun s hs => by have := hub s hs; omega
  refine rw_cons (op_store_blk T53 hB18 (w0 rfl) rfl rfl rfl rfl rfl (one_all rfl) (Nat.le_of_ble_eq_true rfl) ?_)
  rintro w23 hB25 hch24
  have hsz26 := hch24.size
  replace hB := hB.ch hch24 (by simp; omega)
  replace hO := hO.ch hch24 (fun s hs => by have := dj_asg hdj22 s hs; simpa using this)
  replace hc := hc.step hch24 (fun s hs => by simp at hs; first | (left; simp; omega) | (right; omega))
  replace hB18 : Blk w23 g16 53 [(.int .i64 (el hs d9).s), (.int .i64 (el hs d9).a)] := hB25
  clear hB25
  refine rw_nil (hK14 _ _ ?_)
  refine hK12 _ _ ?_
  refine cw_seq fun K27 hK28 => ?_
  refine cw_region fun K29 hK30 => ?_
  refine rw_cons (op_pv (w0 rfl) rfl rfl (pv_move (v := (.pointer (some (⟨g, 0, none⟩)))) rfl rfl) ?_)
  refine rw_cons (op_pv (w0 rfl) rfl rfl (pv_move (v := (.pointer (some (⟨g, 0, none⟩)))) rfl rfl) ?_)
  refine rw_cons (op_pv (w0 rfl) rfl rfl (pv_nil rfl rfl) ?_)
  refine rw_cons (op_lv (w0 rfl) rfl rfl (lv_load T50 rfl rfl (hB.cell (i := 0) rfl)) ?_)
  refine rw_cons (op_pv (w0 rfl) rfl rfl (pv_move (v := (.int .i64 (d9 : Int))) rfl rfl) ?_)
  refine rw_cons (op_pv (w0 rfl) rfl rfl (pv_upto Try.underlying50 T53 rfl rfl rfl (by omega) (by omega)) ?_)
  have hR31 : RS encB 2 w23 w23.heap.size A d9 (hs.take d9) := ((hO.rs (fun _ => rfl))).upto (by omega)
  refine rw_cons (op_pv (w0 rfl) rfl rfl (pv_nil rfl rfl) ?_)
  refine rw_cons (op_store_blk T50 hB (w0 rfl) rfl rfl rfl rfl rfl (one_all rfl) (Nat.le_of_ble_eq_true rfl) ?_)
  rintro w32 hB34 hch33
  have hsz35 := hch33.size
  replace hO := hO.ch hch33 (fun s hs => by have := dj_asg hgo s hs; simpa using this)
  replace hB18 := hB18.ch hch33 (by simp; omega)
  clear hR31
  replace hc := hc.step hch33 (fun s hs => by simp at hs; first | (left; simp; omega) | (right; omega))
  replace hB : Blk w32 g 50 [(.slice A d9 c)] := hB34
  clear hB34
  refine rw_nil (hK30 _ _ ?_)
  refine hK28 _ _ ?_
  refine cw_seq fun K36 hK37 => ?_
  refine cw_region fun K38 hK39 => ?_
  refine rw_cons (op_lv (w0 rfl) rfl rfl (lv_loadN T53 rfl rfl rfl (fun j v hv => hB18.cellA hv)) ?_)
  refine rw_cons (op_pv (w0 rfl) rfl rfl (pv_mkif Try.underlying53 rfl rfl rfl) ?_)
  refine rw_cons (op_pv (w0 rfl) rfl rfl (pv_assign (v := (.iface 53 (.agg #[(.int .i64 (el hs d9).s), (.int .i64 (el hs d9).a)]))) rfl rfl) ?_)
  refine rw_nil (hK39 _ _ ?_)
  refine hK37 _ _ ?_
  refine cw_ret ?_
  refine fin1 rfl ?_
  obtain rfl : d9 = n - 1 := by omega
  exact ⟨rfl, hB, hO, hc⟩
end Go.Proofs.Ytielahdnccocdaa

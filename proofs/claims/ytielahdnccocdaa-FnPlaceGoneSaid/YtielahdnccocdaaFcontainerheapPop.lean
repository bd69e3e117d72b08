/-
  The walk of container/heap.Pop, written by program: each line names the law of one operation. Conditions: those of the theorem.
-/
import Derived.Test.YtielahdnccocdaaProg
import Derived.Test.YtielahdnccocdaaRank
import Derived.Test.YtielahdnccocdaaIface
import Derived.Test.YtielahdnccocdaaFimplserverHeapLen
import Derived.Test.YtielahdnccocdaaFimplserverHeapLess
import Derived.Test.YtielahdnccocdaaFimplserverHeapSwap
import Derived.Test.YtielahdnccocdaaFimplserverHeapPop
import Derived.Test.YtielahdnccocdaaFcontainerheapdown
import Derived.KernelRfl
namespace Go.Proofs.Ytielahdnccocdaa
open Go Go.RowKit
set_option linter.unusedVariables false
set_option linter.unusedSimpArgs false
namespace heapPop_okF
theorem T50 : TI Try.prog 50 false (.slice none 0 0) 1 24 := TI.mk' Try.underlying50 rfl (by kernel_rfl)
theorem C40 : Callable Try.prog 40 := ⟨_, Try.func40, by kernel_rfl, by kernel_rfl⟩
theorem C57 : Callable Try.prog 57 := ⟨_, Try.func57, by kernel_rfl, by kernel_rfl⟩
theorem C59 : Callable Try.prog 59 := ⟨_, Try.func59, by kernel_rfl, by kernel_rfl⟩
theorem C61 : Callable Try.prog 61 := ⟨_, Try.func61, by kernel_rfl, by kernel_rfl⟩
theorem MR48_Len : methRow Try.prog 48 "Len" = some ([], some (57, false)) := by kernel_rfl
theorem MR48_Pop : methRow Try.prog 48 "Pop" = some ([], some (59, true)) := by kernel_rfl
theorem MR48_Swap : methRow Try.prog 48 "Swap" = some ([], some (61, false)) := by kernel_rfl
end heapPop_okF
open heapPop_okF in
set_option maxHeartbeats 4000000 in
theorem heapPop_ok (g base : Nat) (A : Option Addr) (n c : Nat) (hs : List Bt) (w : World) (hB : Blk w g 50 [(.slice A n c)]) (hO : Own encB 2 w base 53 (.slice A n c) hs) (hgo : ∀ s ∈ obl (.slice A n c), s ≠ g) (hb : base ≤ w.heap.size) (hN : n ≤ 1000) (hn0 : 0 < n) (hhp : HeapN n hs) :
    Fn Try.prog 37 [(.iface 48 (.pointer (some (⟨g, 0, none⟩))))] w fun v w' => v = .iface 53 (.agg #[.int .i64 (el hs 0).s, .int .i64 (el hs 0).a]) ∧ ∃ ys, ys.length = n - 1 ∧ (el hs 0 :: ys).Perm hs ∧ HeapN (n - 1) ys ∧ Blk w' g 50 [.slice A (n - 1) c] ∧ Own encB 2 w' base 53 (.slice A (n - 1) c) ys ∧ Ch (g :: obl (.slice A n c)) w w' := by
  have hub := hO.lt
  have hub0 := hO.lt
  have hlen := hO.le.2.2
  have hglt := hB.lt
  refine fn_of (n := 15) Try.func37 rfl rfl rfl rfl ?_
  have hc : Ch (g :: obl (.slice A n c)) w w := Ch.refl _ _
  refine cw_seq fun K1 hK2 => ?_
  refine cw_region fun K3 hK4 => ?_
  refine rw_cons (op_pv (w0 rfl) rfl rfl (pv_assign (v := .nilIface) rfl rfl) ?_)
  refine rw_nil (hK4 _ _ ?_)
  refine hK2 _ _ ?_
  refine cw_seq fun K5 hK6 => ?_
  refine cw_region fun K7 hK8 => ?_
  refine rw_cons (op_pv (w0 rfl) rfl rfl (pv_move (v := (.iface 48 (.pointer (some (⟨g, 0, none⟩))))) rfl rfl) ?_)
  refine rw_cons (op_call (w0 rfl) rfl rfl (rc_invoke C57 (run_method_val Try.underlying48 MR48_Len (run_load T50 (hB.cell (i := 0) rfl))) rfl rfl rfl) (heapLen_ok _ n _ hs _ (hO.rs (fun _ => rfl)) (by omega)) ?_)
  rintro _ w9 ⟨rfl, hch10⟩
  have hsz11 := hch10.size
  replace hB := hB.ch0 hch10
  replace hO := hO.ch0 hch10
  replace hc := hc.step0 hch10
  refine rw_cons (op_pv (w0 rfl) rfl rfl (pv_sub rfl rfl rfl (by omega) (by omega)) ?_)
  obtain ⟨d12, hd13⟩ : ∃ d : Nat, (n : Int) - 1 = (d : Int) := ⟨((n : Int) - 1).toNat, by omega⟩
  rw [hd13]
  refine rw_cons (op_pv (w0 rfl) rfl rfl (pv_assign (v := (.int .i64 (d12 : Int))) rfl rfl) ?_)
  refine rw_nil (hK8 _ _ ?_)
  refine hK6 _ _ ?_
  refine cw_seq fun K14 hK15 => ?_
  refine cw_region fun K16 hK17 => ?_
  refine rw_cons (op_pv (w0 rfl) rfl rfl (pv_move (v := (.iface 48 (.pointer (some (⟨g, 0, none⟩))))) rfl rfl) ?_)
  refine rw_cons (op_pv (w0 rfl) rfl rfl (pv_move (v := (.int .i64 (d12 : Int))) rfl rfl) ?_)
  refine rw_cons (op_call (w0 rfl) rfl rfl (rc_invoke C61 (run_method_val Try.underlying48 MR48_Swap (run_load T50 (hB.cell (i := 0) rfl))) rfl rfl rfl) (heapSwap_ok _ _ _ _ _ 0 (d12 : Int) _ hO (by omega) (by omega) (by omega)) ?_)
  rintro _ w18 ⟨rfl, hO19, hch20⟩
  have hsz21 := hch20.size
  replace hB := hB.ch hch20 (fun hs => dj_asg hgo _ hs rfl)
  replace hc := hc.step hch20 (fun s hs => .inl (List.mem_cons_of_mem _ hs))
  clear hO; have hO : Own encB 2 w18 base 53 (.slice A n c) (swap hs 0 d12) := hO19; clear hO19
  have hdn : DownInv ((d12 : Int)).toNat 0 (swap hs 0 d12) := down_start hhp (by omega) (by omega) (by omega)
  refine rw_nil (hK17 _ _ ?_)
  refine hK15 _ _ ?_
  refine cw_seq fun K22 hK23 => ?_
  refine cw_region fun K24 hK25 => ?_
  refine rw_cons (op_pv (w0 rfl) rfl rfl (pv_move (v := (.iface 48 (.pointer (some (⟨g, 0, none⟩))))) rfl rfl) ?_)
  refine rw_cons (op_pv (w0 rfl) rfl rfl (pv_move (v := (.int .i64 (d12 : Int))) rfl rfl) ?_)
  refine rw_cons (op_call (w0 rfl) rfl rfl (rc_call C40 rfl rfl) (heapDown_ok _ _ _ _ _ _ (d12 : Int) _ hB hO hgo (by omega) (by omega) (by omega) (by exact hdn)) ?_)
  rintro _ w26 ⟨b27, ys28, rfl, hyl29, hperm30, hheap31, hrest32, hO33, hch34⟩
  have hsz35 := hch34.size
  replace hB := hB.ch hch34 (fun hs => dj_asg hgo _ hs rfl)
  replace hc := hc.step hch34 (fun s hs => .inl (List.mem_cons_of_mem _ hs))
  clear hO; have hO := hO33; clear hO33
  refine rw_nil (hK25 _ _ ?_)
  refine hK23 _ _ ?_
  refine cw_seq fun K36 hK37 => ?_
  refine cw_region fun K38 hK39 => ?_
  refine rw_cons (op_pv (w0 rfl) rfl rfl (pv_move (v := (.iface 48 (.pointer (some (⟨g, 0, none⟩))))) rfl rfl) ?_)
  refine rw_cons (op_call (w0 rfl) rfl rfl (rc_invoke C59 (run_method_ptr Try.underlying48 MR48_Pop) rfl rfl rfl) (heapPopM_ok _ _ _ _ _ _ _ hB hO hgo (by omega) (by omega) (by omega)) ?_)
  rintro _ w40 ⟨rfl, hB41, hO42, hch43⟩
  have hsz44 := hch43.size
  replace hc := hc.step hch43 (fun s hs => .inl (by simp at hs; simp [hs]))
  clear hB hO; have hB := hB41; have hO := hO42; clear hB41 hO42
  refine rw_cons (op_pv (w0 rfl) rfl rfl (pv_assign (v := (.iface 53 (.agg #[(.int .i64 (el ys28 (n - 1)).s), (.int .i64 (el ys28 (n - 1)).a)]))) rfl rfl) ?_)
  refine rw_nil (hK39 _ _ ?_)
  refine hK37 _ _ ?_
  refine cw_ret ?_
  refine fin1 rfl ?_
  obtain ⟨hpp, hpe⟩ := pop_perm (d := d12) (by omega) (by omega) (by omega) hyl29 hperm30 hrest32
  obtain rfl : d12 = n - 1 := by omega
  rw [hpe]
  exact ⟨rfl, ys28.take (n - 1), by simp; omega, hpp, heap_take (n := n) hheap31, hB, hO.upto (fun _ => rfl) (by omega), hc⟩
end Go.Proofs.Ytielahdnccocdaa

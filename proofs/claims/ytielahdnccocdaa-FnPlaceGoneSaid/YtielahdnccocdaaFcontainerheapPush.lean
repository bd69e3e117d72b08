/-
  The walk of container/heap.Push, written by program: each line names the law of one operation. Conditions: those of the theorem.
-/
import Derived.Test.YtielahdnccocdaaProg
import Derived.Test.YtielahdnccocdaaRank
import Derived.Test.YtielahdnccocdaaIface
import Derived.Test.YtielahdnccocdaaFimplserverHeapLen
import Derived.Test.YtielahdnccocdaaFimplserverHeapLess
import Derived.Test.YtielahdnccocdaaFimplserverHeapSwap
import Derived.Test.YtielahdnccocdaaFimplserverHeapPush
import Derived.Test.YtielahdnccocdaaFcontainerheapup
import Derived.KernelRfl
namespace Go.Proofs.Ytielahdnccocdaa
open Go Go.RowKit
set_option linter.unusedVariables false
set_option linter.unusedSimpArgs false
namespace heapPush_okF
theorem T50 : TI Try.prog 50 false (.slice none 0 0) 1 24 := TI.mk' Try.underlying50 rfl (by kernel_rfl)
theorem C39 : Callable Try.prog 39 := ⟨_, Try.func39, by kernel_rfl, by kernel_rfl⟩
theorem C57 : Callable Try.prog 57 := ⟨_, Try.func57, by kernel_rfl, by kernel_rfl⟩
theorem C60 : Callable Try.prog 60 := ⟨_, Try.func60, by kernel_rfl, by kernel_rfl⟩
theorem MR48_Len : methRow Try.prog 48 "Len" = some ([], some (57, false)) := by kernel_rfl
theorem MR48_Push : methRow Try.prog 48 "Push" = some ([], some (60, true)) := by kernel_rfl
end heapPush_okF
open heapPush_okF in
set_option maxHeartbeats 4000000 in
theorem heapPush_ok (g base : Nat) (A : Option Addr) (n c : Nat) (hs : List Bt) (xs xa : Int) (w : World) (hB : Blk w g 50 [(.slice A n c)]) (hO : Own encB 2 w base 53 (.slice A n c) hs) (hgo : ∀ s ∈ obl (.slice A n c), s ≠ g) (hb : base ≤ w.heap.size) (hN : n ≤ 900) (hgb : base ≤ g) (hhp : HeapN n hs) :
    Fn Try.prog 36 [(.iface 48 (.pointer (some (⟨g, 0, none⟩)))), (.iface 53 (.agg #[.int .i64 xs, .int .i64 xa]))] w fun v w' => v = .tuple #[] ∧ ∃ ys, ys.Perm (hs ++ [⟨xs, xa⟩]) ∧ HeapN ys.length ys ∧ HeapIs 50 53 w' base g ys ∧ Below base w w' := by
  have hub := hO.lt
  have hub0 := hO.lt
  have hlen := hO.le.2.2
  have hglt := hB.lt
  refine fn_of (n := 12) Try.func36 rfl rfl rfl rfl ?_
  have hc : Below base w w := Below.refl _ _
  refine cw_seq fun K1 hK2 => ?_
  refine cw_region fun K3 hK4 => ?_
  refine rw_cons (op_pv (w0 rfl) rfl rfl (pv_move (v := (.iface 48 (.pointer (some (⟨g, 0, none⟩))))) rfl rfl) ?_)
  refine rw_cons (op_pv (w0 rfl) rfl rfl (pv_move (v := (.iface 53 (.agg #[.int .i64 xs, .int .i64 xa]))) rfl rfl) ?_)
  refine rw_cons (op_call (w0 rfl) rfl rfl (rc_invoke C60 (run_method_ptr Try.underlying48 MR48_Push) rfl rfl rfl) (heapPushM_ok _ _ _ _ _ _ xs xa _ hB hO hgo (by omega) (by omega) (by omega)) ?_)
  rintro _ w5 ⟨rfl, hheap6, hbl7⟩
  obtain ⟨S8, hOff9, hch10⟩ := below_ch hbl7
  have hsz11 := hch10.size
  replace hc := belowC hc (by omega) (hOff9.le (by omega)) hch10
  clear hB hO; obtain ⟨A12, c13, hB, hO, hgb14, hdj16⟩ := hheap6
  have hub15 := hO.lt
  have hle17 := hO.le
  have hgl18 := hB.lt
  have hl19 : (hs ++ [(⟨xs, xa⟩ : Bt)]).length = hs.length + 1 := by simp
  refine rw_nil (hK4 _ _ ?_)
  refine hK2 _ _ ?_
  refine cw_region fun K20 hK21 => ?_
  refine rw_cons (op_pv (w0 rfl) rfl rfl (pv_move (v := (.iface 48 (.pointer (some (⟨g, 0, none⟩))))) rfl rfl) ?_)
  refine rw_cons (op_pv (w0 rfl) rfl rfl (pv_move (v := (.iface 48 (.pointer (some (⟨g, 0, none⟩))))) rfl rfl) ?_)
  refine rw_cons (op_call (w0 rfl) rfl rfl (rc_invoke C57 (run_method_val Try.underlying48 MR48_Len (run_load T50 (hB.cell (i := 0) rfl))) rfl rfl rfl) (heapLen_ok _ (hs ++ [(⟨xs, xa⟩ : Bt)]).length _ (hs ++ [(⟨xs, xa⟩ : Bt)]) _ (hO.rs (fun _ => rfl)) (by omega)) ?_)
  rintro _ w22 ⟨rfl, hch23⟩
  have hsz24 := hch23.size
  replace hB := hB.ch0 hch23
  replace hO := hO.ch0 hch23
  replace hc := belowC hc (by omega) off0 hch23
  refine rw_cons (op_pv (w0 rfl) rfl rfl (pv_sub rfl rfl rfl (by omega) (by omega)) ?_)
  have hup : UpInv (hs ++ [(⟨xs, xa⟩ : Bt)]).length (((hs ++ [(⟨xs, xa⟩ : Bt)]).length : Int) - 1).toNat (hs ++ [⟨xs, xa⟩]) := up_push (n := n) (by omega) hhp
  refine rw_cons (op_call (w0 rfl) rfl rfl (rc_call C39 rfl rfl) (heapUp_ok _ _ _ _ _ _ (((hs ++ [(⟨xs, xa⟩ : Bt)]).length : Int) - 1) _ hB hO hdj16 (by omega) (by omega) (by omega) (by exact hup)) ?_)
  rintro _ w25 ⟨rfl, ys26, hyl27, hperm28, hheap29, hO30, hch31⟩
  have hsz32 := hch31.size
  replace hB := hB.ch hch31 (fun hs => dj_asg hdj16 _ hs rfl)
  replace hc := belowC hc (by omega) (hO.off.le (by omega)) hch31
  clear hO; have hO := hO30; clear hO30
  refine rw_nil (hK21 _ _ ?_)
  refine fin0n ?_
  rw [← hyl27] at hheap29
  exact ⟨rfl, ys26, hperm28, hheap29, heap_as hB hO rfl (by omega) hdj16, hc⟩
end Go.Proofs.Ytielahdnccocdaa

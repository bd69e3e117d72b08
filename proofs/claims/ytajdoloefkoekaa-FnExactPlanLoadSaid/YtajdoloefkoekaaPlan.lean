/-
  Plain: how often a server is copied to. No conditions; no program in sight.
-/
import Derived.Test.YtajdoloefkoekaaKinds
namespace Go.Proofs.Ytajdoloefkoekaa
open Go Go.RowKit
set_option linter.unusedVariables false

theorem mv_ext {x y : Mv} (h1 : x.p = y.p) (h2 : x.f = y.f) (h3 : x.t = y.t) : x = y := by
  cases x; cases y; simp_all

def mvLoad (ms : List Mv) (s : Int) : Nat := (ms.filter fun m => decide (m.t = s)).length
theorem mvLoad_le (ms : List Mv) (s : Int) : mvLoad ms s ≤ ms.length := List.length_filter_le _ _
theorem mvLoad_take (ms : List Mv) (s : Int) (k : Nat) (h : k < ms.length) : mvLoad (ms.take (k + 1)) s = mvLoad (ms.take k) s + if (el ms k).t = s then 1 else 0 := by
  unfold mvLoad
  rw [List.take_succ_eq_append_getElem h, List.filter_append, List.length_append, el_eq h]
  by_cases hs : ms[k].t = s <;> simp [hs]
theorem mvLoad_yes (ms : List Mv) (s : Int) (k : Nat) (h : k < ms.length) (hs : (el ms k).t = s) : mvLoad (ms.take (k + 1)) s = mvLoad (ms.take k) s + 1 := by rw [mvLoad_take ms s k h, if_pos hs]
theorem mvLoad_no (ms : List Mv) (s : Int) (k : Nat) (h : k < ms.length) (hs : (el ms k).t ≠ s) : mvLoad (ms.take (k + 1)) s = mvLoad (ms.take k) s := by rw [mvLoad_take ms s k h, if_neg hs]; rfl
theorem mvLoad_all (ms : List Mv) (s : Int) (k : Nat) (h : ms.length ≤ k) : mvLoad (ms.take k) s = mvLoad ms s := by rw [List.take_of_length_le h]
theorem mvLoad_split (ms : List Mv) (s : Int) (k : Nat) : mvLoad (ms.take k) s + mvLoad (ms.drop k) s = mvLoad ms s := by
  unfold mvLoad
  rw [← List.length_append, ← List.filter_append, List.take_append_drop]
end Go.Proofs.Ytajdoloefkoekaa

/-
  The walk of impl.newBook, written by program: each line names the law of one operation. Conditions: those of the theorem.
-/
import Derived.Test.YtnkjljjcionfiaaProg
import Derived.Test.YtnkjljjcionfiaaBeats
import Derived.KernelRfl
namespace Go.Proofs.Ytnkjljjcionfiaa
open Go Go.RowKit
set_option linter.unusedVariables false
set_option linter.unusedSimpArgs false
namespace newBook_okF
theorem T39 : TI Try.prog 39 true (.agg #[.int .i64 0, .int .i64 0]) 2 16 := TI.mk' Try.underlying39 rfl (by kernel_rfl)
theorem B76_1SL (a1 : Option Addr) (n1 c1 : Nat) (u : World) : (Instr.build 76 #[(1, .slice a1 n1 c1)]).run Try.prog u = .ok (.agg #[(.int .i32 0), (.int .u32 0), .slice a1 n1 c1]) u := by kernel_rfl
end newBook_okF
open newBook_okF in
set_option maxHeartbeats 4000000 in
theorem newBook_ok (A : Option Addr) (n c : Nat) (xs : List Bt) (w : World) (hR : RS encB 2 w w.heap.size A n xs) (hn : n ≤ 1000) :
    Fn Try.prog 49 [(.slice A n c)] w fun v w' => ∃ g, v = .pointer (some ⟨g, 0, none⟩) ∧ w.heap.size ≤ g ∧ BookIs 76 39 w' w.heap.size g xs ∧ Ch [] w w' := by
  have hlen := hR.len
  refine fn_of (n := 8) Try.func49 rfl rfl rfl rfl ?_
  have hc : Ch [] w w := Ch.refl _ _
  refine cw_seq fun K1 hK2 => ?_
  refine cw_region fun K3 hK4 => ?_
  refine rw_cons (op_pv (w0 rfl) rfl rfl (pv_assign (v := (.pointer none)) rfl rfl) ?_)
  refine rw_nil (hK4 _ _ ?_)
  refine hK2 _ _ ?_
  refine cw_seq fun K5 hK6 => ?_
  refine cw_region fun K7 hK8 => ?_
  refine rw_cons (op_bslice [] Try.underlying23 T39 (w0 rfl) rfl rfl rfl rfl rfl (by simp [Value.cells]) (by decide) ?_)
  intro g10 w9 hg13 hg14 hK12 hch11
  have hO15 : Own encB 2 w9 w.heap.size 39 (.slice (some ⟨g10, 0, none⟩) 0 0) ([] : List Bt) := Blk.own (xs := ([] : List Bt)) hK12 (by omega) rfl (by decide) rfl
  have hsz16 := hch11.size
  replace hR := hR.ch0 hch11
  replace hc := hc.step0 hch11
  have hub17 := hO15.lt
  refine rw_cons (op_pv (w0 rfl) rfl rfl (pv_move (v := (.slice A n c)) rfl rfl) ?_)
  refine rw_cons (op_append Try.underlying23 T39 (fun _ => rfl) rfl (by decide) (fun _ => one_all rfl) (w0 rfl) rfl rfl rfl rfl rfl hO15 hR (by unfold maxLen; first | omega | (simp; omega)) (by first | omega | (simp; omega)) (by omega) ?_)
  rintro v18 w19 hO20 hch21 hs22
  replace hO20 : Own encB 2 w19 w.heap.size 39 v18 xs := hO20
  have hl23 : xs.length = 0 + n := by first | (have hl0 := hR.len; omega) | (have hl0 := hR.len; simp only [List.length_append, List.length_cons, List.length_nil] at hl0 ⊢; omega) | simp | rfl
  have hsz24 := hch21.size
  replace hR := hR.ch hch21 (hO15.off.le (by omega))
  replace hc := (hO15.off.le (by omega)).step hc hch21
  have hub25 := hO20.lt
  obtain ⟨A26, c27, hv28, hcap29, hcap30⟩ := hO20.form; subst hv28
  refine rw_cons (op_pv (w0 rfl) rfl rfl (pv_build rfl rfl (B76_1SL _ _ _)) ?_)
  refine rw_cons (op_box (w0 rfl) rfl rfl rfl rfl ?_)
  rintro g32 w31 hg35 hg36 hB34 hch33
  have hsz37 := hch33.size
  replace hR := hR.ch0 hch33
  replace hO20 := hO20.ch0 hch33
  replace hc := hc.step0 hch33
  replace hB34 : Blk w31 g32 76 [(.int .i32 0), (.int .u32 0), (.slice A26 xs.length c27)] := hB34
  refine rw_cons (op_pv (w0 rfl) rfl rfl (pv_assign (v := (.pointer (some (⟨g32, 0, none⟩)))) rfl rfl) ?_)
  refine rw_nil (hK8 _ _ ?_)
  refine hK6 _ _ ?_
  refine cw_ret ?_
  refine fin1 rfl ?_
  exact ⟨_, rfl, by omega, ⟨_, _, hB34, hO20.less (by omega), by omega, fun s hs => by have := hub25 s hs; omega⟩, hc⟩
end Go.Proofs.Ytnkjljjcionfiaa

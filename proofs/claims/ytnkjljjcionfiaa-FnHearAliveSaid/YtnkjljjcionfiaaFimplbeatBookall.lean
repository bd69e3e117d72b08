/-
  The walk of (*impl.beatBook).all, written by program: each line names the law of one operation. Conditions: those of the theorem.
-/
import Derived.Test.YtnkjljjcionfiaaProg
import Derived.Test.YtnkjljjcionfiaaBeats
import Derived.Test.YtnkjljjcionfiaaDefer
import Derived.Test.YtnkjljjcionfiaaLocks
import Derived.KernelRfl
namespace Go.Proofs.Ytnkjljjcionfiaa
open Go Go.RowKit
set_option linter.unusedVariables false
set_option linter.unusedSimpArgs false
namespace all_okF
theorem T23 : TI Try.prog 23 false (.slice none 0 0) 1 24 := TI.mk' Try.underlying23 rfl (by kernel_rfl)
theorem T39 : TI Try.prog 39 true (.agg #[.int .i64 0, .int .i64 0]) 2 16 := TI.mk' Try.underlying39 rfl (by kernel_rfl)
theorem F76_0 : FldOK Try.prog 76 0 0 := ⟨_, _, 1, Try.underlying76, rfl, rfl, by kernel_rfl⟩
theorem F76_1 : FldOK Try.prog 76 1 2 := ⟨_, _, 0, Try.underlying76, rfl, rfl, by kernel_rfl⟩
theorem C55 : Callable Try.prog 55 := ⟨_, Try.func55, by kernel_rfl, by kernel_rfl⟩
theorem C56 : Callable Try.prog 56 := ⟨_, Try.func56, by kernel_rfl, by kernel_rfl⟩
end all_okF
open all_okF in
set_option maxHeartbeats 4000000 in
theorem all_ok (g base : Nat) (xs : List Bt) (w : World) (hbk : BookIs 76 39 w base g xs) (hbase : base ≤ w.heap.size) (hn : xs.length ≤ 1000) :
    Fn Try.prog 51 [(.pointer (some (⟨g, 0, none⟩)))] w fun v w' => ∃ A1 c1, v = .slice A1 xs.length c1 ∧ Own encB 2 w' w.heap.size 39 (.slice A1 xs.length c1) xs ∧ BookIs 76 39 w' base g xs ∧ ∃ S, Off base S ∧ Ch S w w' := by
  obtain ⟨A, c, hB, hO, hgb, hgo⟩ := hbk
  have hub := hO.lt
  have hcap := hO.le.1
  have hglt := hB.lt
  have hOffS : Off base (g :: obl (.slice A xs.length c)) := fun s hs => by
    rcases List.mem_cons.1 hs with h | h
    · omega
    · exact hO.off s h
  refine fn_ofD (n := 16) (g := 56) (dargs := [.pointer (some ⟨g, 0, none⟩)]) Try.func51 rfl rfl rfl rfl C56 ?_
  have hc : Ch (g :: obl (.slice A xs.length c)) w w := Ch.refl _ _
  refine cwd_seq_r fun K1 hK2 => ?_
  refine cw_region fun K3 hK4 => ?_
  refine rw_cons (op_pv (w0 rfl) rfl rfl (pv_assign (v := (.slice none 0 0)) rfl rfl) ?_)
  refine rw_nil (hK4 _ _ ?_)
  refine hK2 _ _ ?_
  refine cwd_seq_r fun K5 hK6 => ?_
  refine cw_region fun K7 hK8 => ?_
  refine rw_cons (op_pv (w0 rfl) rfl rfl (pv_move (v := (.pointer (some (⟨g, 0, none⟩)))) rfl rfl) ?_)
  refine rw_cons (op_pv (w0 rfl) rfl rfl (pv_nil rfl rfl) ?_)
  refine rw_cons (op_pv (w0 rfl) rfl rfl (pv_fld F76_0 rfl rfl) ?_)
  refine rw_cons (op_call (w0 rfl) rfl rfl (rc_call C55 rfl rfl) (lock_fn muLib hB) ?_)
  rintro _ w9 ⟨rfl, hB10, hch11⟩
  have hsz12 := hch11.size
  replace hO := hO.ch hch11 (fun s hs => by have := dj_asg hgo s hs; simpa using this)
  replace hc := hc.step hch11 (fun s hs => by first | (left; simp at hs; simp [hs]; done) | (right; simp at hs; omega))
  replace hB : Blk w9 g 76 [(.int .i32 1), (.int .u32 0), (.slice A xs.length c)] := hB10
  clear hB10
  refine rw_nil (hK8 _ _ ?_)
  refine hK6 _ _ ?_
  refine cwd_seq_l fun K13 hK14 => ?_
  refine cwd_region fun K15 hK16 => ?_
  refine rwd_cons (op_pv (w0 rfl) rfl rfl (pv_move (v := (.pointer (some (⟨g, 0, none⟩)))) rfl rfl) ?_)
  refine rwd_cons (op_pv (w0 rfl) rfl rfl (pv_nil rfl rfl) ?_)
  refine rwd_cons (op_pv (w0 rfl) rfl rfl (pv_fld F76_0 rfl rfl) ?_)
  refine rwd_defer (w0 rfl) rfl (rd_defer rfl rfl) (hK16 _ _ ?_)
  refine hK14 _ _ ?_
  refine cw_seq fun K17 hK18 => ?_
  refine cw_region fun K19 hK20 => ?_
  refine rw_cons (op_bslice [] Try.underlying23 T39 (w0 rfl) rfl rfl rfl rfl rfl (by simp [Value.cells]) (by decide) ?_)
  intro g22 w21 hg25 hg26 hK24 hch23
  have hO27 : Own encB 2 w21 w9.heap.size 39 (.slice (some ⟨g22, 0, none⟩) 0 0) ([] : List Bt) := Blk.own (xs := ([] : List Bt)) hK24 (by omega) rfl (by decide) rfl
  have hsz28 := hch23.size
  replace hB := hB.ch0 hch23
  replace hO := hO.ch0 hch23
  replace hc := hc.step0 hch23
  have hub29 := hO27.lt
  refine rw_cons (op_pv (w0 rfl) rfl rfl (pv_move (v := (.pointer (some (⟨g, 0, none⟩)))) rfl rfl) ?_)
  refine rw_cons (op_pv (w0 rfl) rfl rfl (pv_nil rfl rfl) ?_)
  refine rw_cons (op_pv (w0 rfl) rfl rfl (pv_fld F76_1 rfl rfl) ?_)
  refine rw_cons (op_lv (w0 rfl) rfl rfl (lv_load T23 rfl rfl (hB.cellA (i := 2) rfl)) ?_)
  refine rw_cons (op_append Try.underlying23 T39 (fun _ => rfl) rfl (by decide) (fun _ => one_all rfl) (w0 rfl) rfl rfl rfl rfl rfl hO27 (hO.rs (fun _ => rfl)) (by unfold maxLen; first | omega | (simp; omega)) (by first | omega | (simp; omega)) (by omega) ?_)
  rintro v30 w31 hO32 hch33 hs34
  replace hO32 : Own encB 2 w31 w9.heap.size 39 v30 xs := hO32
  have hl35 : xs.length = 0 + xs.length := by first | (have hl0 := (hO.rs (fun _ => rfl)).len; omega) | (have hl0 := (hO.rs (fun _ => rfl)).len; simp only [List.length_append, List.length_cons, List.length_nil] at hl0 ⊢; omega) | simp | rfl
  have hsz36 := hch33.size
  replace hB := hB.ch hch33 (by first | (refine hO27.off.not ?_; omega) | (intro hs; have := hub29 _ hs; omega))
  replace hO := hO.ch hch33 (fun s hs hs2 => by first | (have h1 := hO.off s hs; have h2 := hub29 s hs2; omega) | (have h1 := hub s hs; have h2 := hO27.off s hs2; omega) | (have h2 := hub29 s hs2; simp [obl, Value.ownBlock] at hs; omega) | (have h1 := hub s hs; simp [obl, Value.ownBlock] at hs2; omega))
  replace hc := hc.step hch33 (fun s hs => by first | (left; exact List.mem_cons_of_mem _ hs) | (right; have := hO27.off s hs; omega))
  have hub37 := hO32.lt
  obtain ⟨A38, c39, hv40, hcap41, hcap42⟩ := hO32.form; subst hv40
  refine rw_cons (op_pv (w0 rfl) rfl rfl (pv_assign (v := (.slice A38 xs.length c39)) rfl rfl) ?_)
  refine rw_nil (hK20 _ _ ?_)
  refine hK18 _ _ ?_
  refine cw_ret ?_
  refine finD1 rfl ?_
  refine unlock_door muLib hB ?_
  intro w43 hB44 hch45
  have hsz46 := hch45.size
  replace hO := hO.ch hch45 (fun s hs => by have := dj_asg hgo s hs; simpa using this)
  replace hO32 := hO32.ch hch45 (fun s hs => by first | (have := hO32.off s hs; simp; omega) | (have := hub37 s hs; simp; omega))
  replace hc := hc.step hch45 (fun s hs => by first | (left; simp at hs; simp [hs]; done) | (right; simp at hs; omega))
  replace hB : Blk w43 g 76 [(.int .i32 0), (.int .u32 0), (.slice A xs.length c)] := hB44
  clear hB44
  exact ⟨_, _, rfl, hO32.less (by omega), ⟨_, _, hB, hO, by omega, hgo⟩, _, hOffS, hc⟩
end Go.Proofs.Ytnkjljjcionfiaa

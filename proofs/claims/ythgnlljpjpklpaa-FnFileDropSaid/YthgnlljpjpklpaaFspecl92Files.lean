/-
  The walk of spec.l92Files, written by program: each line names the law of one operation. Conditions: those of the theorem.
-/
import Derived.Test.YthgnlljpjpklpaaProg
import Derived.Test.YthgnlljpjpklpaaDeep
import Derived.Test.YthgnlljpjpklpaaFspecl6Rdpick
import Derived.KernelRfl
namespace Go.Proofs.Ythgnlljpjpklpaa
open Go Go.RowKit
set_option linter.unusedVariables false
set_option linter.unusedSimpArgs false
namespace l92Files_okF
theorem T3 : TI Try.prog 3 false (.int .i64 0) 1 8 := TI.mk' Try.underlying3 rfl (by kernel_rfl)
theorem T9 : TI Try.prog 9 false (.string { data := #[] }) 1 16 := TI.mk' Try.underlying9 rfl (by kernel_rfl)
theorem T25 : TI Try.prog 25 false (.slice none 0 0) 1 24 := TI.mk' Try.underlying25 rfl (by kernel_rfl)
theorem T48 : TI Try.prog 48 true (.agg #[.string { data := #[] }, .slice none 0 0]) 2 40 := TI.mk' Try.underlying48 rfl (by kernel_rfl)
theorem F48_1 : FldOK Try.prog 48 1 1 := ⟨_, _, 0, Try.underlying48, rfl, rfl, by kernel_rfl⟩
theorem C62 : Callable Try.prog 62 := ⟨_, Try.func62, by kernel_rfl, by kernel_rfl⟩
theorem B48_0S_1SL (a0 : ByteArray) (a1 : Option Addr) (n1 c1 : Nat) (u : World) : (Instr.build 48 #[(0, .string a0), (1, .slice a1 n1 c1)]).run Try.prog u = .ok (.agg #[.string a0, .slice a1 n1 c1]) u := by kernel_rfl
end l92Files_okF
open l92Files_okF in
set_option maxHeartbeats 4000000 in
theorem l92Files_ok (g : Nat) (N : Nat) (w : World) (hRd : Rd 77 w g N) (hN : N ≤ 900000) :
    Fn Try.prog 53 [(.pointer (some (⟨g, 0, none⟩)))] w fun v w' => ∃ A c hs, v = .slice A hs.length c ∧ Own encF 2 w' w.heap.size 48 (.slice A hs.length c) hs ∧ DX w.heap.size w'.heap.size [] w' hs ∧ hs.length ≤ 8 ∧ SzOK hs ∧ Rd 77 w' g (N + 80) ∧ Ch [g] w w' := by
  have hg0 := hRd.lt
  refine fn_of (n := 72) Try.func53 rfl rfl rfl rfl ?_
  have hc : Ch [g] w w := Ch.refl _ _
  refine cw_seq fun K1 hK2 => ?_
  refine cw_region fun K3 hK4 => ?_
  refine rw_cons (op_pv (w0 rfl) rfl rfl (pv_assign (v := (.slice none 0 0)) rfl rfl) ?_)
  refine rw_nil (hK4 _ _ ?_)
  refine hK2 _ _ ?_
  refine cw_seq fun K5 hK6 => ?_
  refine cw_region fun K7 hK8 => ?_
  refine rw_cons (op_bslice [] Try.underlying24 T48 (w0 rfl) rfl rfl rfl rfl rfl (by simp [Value.cells]) (by decide) ?_)
  intro g10 w9 hg13 hg14 hK12 hch11
  have hO15 : Own encF 2 w9 w.heap.size 48 (.slice (some ⟨g10, 0, none⟩) 0 0) ([] : List Fl) := Blk.own (xs := ([] : List Fl)) hK12 (by omega) rfl (by decide) rfl
  have hsz16 := hch11.size
  replace hRd := hRd.ch0 hch11
  replace hc := hc.step0 hch11
  have hub17 := hO15.lt
  refine rw_cons (op_pv (w0 rfl) rfl rfl (pv_assign (v := (.slice (some ⟨g10, 0, none⟩) 0 0)) rfl rfl) ?_)
  refine rw_nil (hK8 _ _ ?_)
  refine hK6 _ _ ?_
  refine cw_seq fun K18 hK19 => ?_
  refine cw_region fun K20 hK21 => ?_
  refine rw_cons (op_bslice [(.string (ByteArray.mk #[97, 98])), (.string (ByteArray.mk #[98])), (.string (ByteArray.mk #[99, 97, 116])), (.string (ByteArray.mk #[100, 111, 103])), (.string (ByteArray.mk #[101])), (.string (ByteArray.mk #[102, 111, 120])), (.string (ByteArray.mk #[103])), (.string (ByteArray.mk #[104, 97, 116])), (.string (ByteArray.mk #[105, 98, 105, 115]))] Try.underlying74 T9 (w0 rfl) rfl rfl rfl rfl rfl (by simp [Value.cells]) (by decide) ?_)
  intro g23 w22 hg26 hg27 hK25 hch24
  have hO28 : Own encS 1 w22 w9.heap.size 9 (.slice (some ⟨g23, 0, none⟩) 9 9) ([(ByteArray.mk #[97, 98]), (ByteArray.mk #[98]), (ByteArray.mk #[99, 97, 116]), (ByteArray.mk #[100, 111, 103]), (ByteArray.mk #[101]), (ByteArray.mk #[102, 111, 120]), (ByteArray.mk #[103]), (ByteArray.mk #[104, 97, 116]), (ByteArray.mk #[105, 98, 105, 115])] : List ByteArray) := Blk.own (xs := ([(ByteArray.mk #[97, 98]), (ByteArray.mk #[98]), (ByteArray.mk #[99, 97, 116]), (ByteArray.mk #[100, 111, 103]), (ByteArray.mk #[101]), (ByteArray.mk #[102, 111, 120]), (ByteArray.mk #[103]), (ByteArray.mk #[104, 97, 116]), (ByteArray.mk #[105, 98, 105, 115])] : List ByteArray)) hK25 (by omega) rfl (by decide) rfl
  have hsz29 := hch24.size
  replace hRd := hRd.ch0 hch24
  replace hO15 := hO15.ch0 hch24
  replace hc := hc.step0 hch24
  have hub30 := hO28.lt
  have hdj31 : ∀ s ∈ obl (.slice (some ⟨g10, 0, none⟩) 0 0), s ∉ obl (.slice (some ⟨g23, 0, none⟩) 9 9) := fun s hs hs2 => by first | (have h1 := hub17 s hs; have h2 := hO28.off s hs2; omega) | (simp [obl, Value.ownBlock] at hs; done) | (simp [obl, Value.ownBlock] at hs2; done) | (have h1 := hub17 s hs; simp [obl, Value.ownBlock] at hs2; omega)
  refine rw_cons (op_pv (w0 rfl) rfl rfl (pv_assign (v := (.slice (some ⟨g23, 0, none⟩) 9 9)) rfl rfl) ?_)
  have hnm : ∀ s ∈ ([(ByteArray.mk #[97, 98]), (ByteArray.mk #[98]), (ByteArray.mk #[99, 97, 116]), (ByteArray.mk #[100, 111, 103]), (ByteArray.mk #[101]), (ByteArray.mk #[102, 111, 120]), (ByteArray.mk #[103]), (ByteArray.mk #[104, 97, 116]), (ByteArray.mk #[105, 98, 105, 115])] : List ByteArray), s.size ≤ 10 := by decide
  have hn9 : ([(ByteArray.mk #[97, 98]), (ByteArray.mk #[98]), (ByteArray.mk #[99, 97, 116]), (ByteArray.mk #[100, 111, 103]), (ByteArray.mk #[101]), (ByteArray.mk #[102, 111, 120]), (ByteArray.mk #[103]), (ByteArray.mk #[104, 97, 116]), (ByteArray.mk #[105, 98, 105, 115])] : List ByteArray).length = 9 := rfl
  refine rw_nil (hK21 _ _ ?_)
  refine hK19 _ _ ?_
  refine cw_seq fun K32 hK33 => ?_
  refine cw_region fun K34 hK35 => ?_
  refine rw_cons (op_pv (w0 rfl) rfl rfl (pv_assign (v := (.int .i64 1)) rfl rfl) ?_)
  refine rw_nil (hK35 _ _ ?_)
  refine hK33 _ _ ?_
  refine cw_seq fun K36 hK37 => ?_
  refine cw_seq fun K38 hK39 => ?_
  refine cw_region fun K40 hK41 => ?_
  refine rw_cons (op_pv (w0 rfl) rfl rfl (pv_assign (v := (.int .i64 0)) rfl rfl) ?_)
  refine rw_nil (hK41 _ _ ?_)
  refine hK39 _ _ ?_
  refine cw_block ?_
  refine cw_loop (σ := Nat × Int × (Option Addr) × Nat × (List Fl)) (fun ⟨i, p, Ao, co, hs⟩ => [(3, (.slice Ao hs.length co)), (5, (.int .i64 p)), (6, (.int .i64 (i : Int))), (0, (.pointer (some (⟨g, 0, none⟩)))), (2, (.slice none 0 0)), (4, (.slice (some ⟨g23, 0, none⟩) 9 9))]) (fun ⟨i, p, Ao, co, hs⟩ W => (i ≤ 9 ∧ hs.length ≤ 8 ∧ 1 ≤ p ∧ p ≤ 1 + 6 * i ∧ SzOK hs) ∧ Own encS 1 W w9.heap.size 9 (.slice (some ⟨g23, 0, none⟩) 9 9) ([(ByteArray.mk #[97, 98]), (ByteArray.mk #[98]), (ByteArray.mk #[99, 97, 116]), (ByteArray.mk #[100, 111, 103]), (ByteArray.mk #[101]), (ByteArray.mk #[102, 111, 120]), (ByteArray.mk #[103]), (ByteArray.mk #[104, 97, 116]), (ByteArray.mk #[105, 98, 105, 115])] : List ByteArray) ∧ Own encF 2 W w.heap.size 48 (.slice Ao hs.length co) hs ∧ Rd 77 W g (N + 6 * i) ∧ DXo w.heap.size (obl (.slice Ao hs.length co)) W hs ∧ Ch [g] w W ∧ w9.heap.size ≤ W.heap.size ∧ (∀ s ∈ obl (.slice (some ⟨g23, 0, none⟩) 9 9), s ∉ obl (.slice Ao hs.length co))) (fun ⟨i, p, Ao, co, hs⟩ => 9 - i) (0, 1, (some ⟨g10, 0, none⟩), 0, []) ?_ ?_ ?_
  · exact ⟨rfl, rfl, rfl, rfl, rfl, rfl, trivial⟩
  · refine ⟨⟨Nat.zero_le _, by simp, by omega, by omega, SzOK.nil⟩, hO28, hO15.less (by omega), hRd, ⟨0, by omega, DX.nil⟩, hc, (by omega), (fun s hs hs2 => by first | (have h1 := hO15.off s hs; have h2 := hub30 s hs2; omega) | (have h1 := hO28.off s hs; have h2 := hub17 s hs2; omega) | (have h1 := hub17 s hs; have h2 := hO28.off s hs2; omega) | (have h1 := hub30 s hs; have h2 := hO15.off s hs2; omega) | (simp [obl, Value.ownBlock] at hs; done) | (simp [obl, Value.ownBlock] at hs2; done) | exact dj_as hdj31 s hs hs2 | exact dj_sw hdj31 s hs hs2)⟩
  · rintro ⟨i, p, Ao, co, hs⟩ J48 w42 ⟨⟨hi, hl8, hp1, hp2, hZ⟩, hO28, hO15, hRd, hD, hc, hmono43, hdj44⟩ K45 hK46
    have hsz50 := hc.size
    have hlt51 := hRd.lt
    obtain ⟨B1_52, hB153, hD⟩ := hD
    have hub54 := hO28.lt
    have hubOut := hO15.lt
    have hg1 := hRd.lt
    refine cw_seq fun K55 hK56 => ?_
    refine cw_seq fun K57 hK58 => ?_
    refine cw_region fun K59 hK60 => ?_
    refine rw_cons (op_pv (w0 rfl) rfl rfl (pv_move (v := (.int .i64 (i : Int))) rfl rfl) ?_)
    refine rw_cons (op_pv (w0 rfl) rfl rfl (pv_move (v := (.slice (some ⟨g23, 0, none⟩) 9 9)) rfl rfl) ?_)
    refine rw_cons (op_pv (w0 rfl) rfl rfl (pv_len Try.underlying74 rfl rfl) ?_)
    refine rw_cons (op_pv (w0 rfl) rfl rfl (pv_lss rfl rfl rfl) ?_)
    refine rw_nil (hK60 _ _ ?_)
    refine hK58 _ _ ?_
    refine cw_cond rfl (fun h61 => ?_) (fun h61 => ?_)
    · -- then
      replace h61 := of_decide_eq_true h61
      refine cw_skip ?_
      refine hK56 _ _ ?_
      refine cw_seq fun K62 hK63 => ?_
      refine cw_block ?_
      refine cw_seq fun K64 hK65 => ?_
      refine cw_region fun K66 hK67 => ?_
      refine rw_cons (op_pv (w0 rfl) rfl rfl (pv_move (v := (.pointer (some (⟨g, 0, none⟩)))) rfl rfl) ?_)
      refine rw_cons (op_call (w0 rfl) rfl rfl (rc_call C62 rfl rfl) (pick_ok _ _ _ _ hRd (by omega)) ?_)
      rintro _ w69 ⟨r68, rfl, hr70, hr71, hr72, hRd73, hch74⟩
      have hsz75 := hch74.size
      replace hO28 := hO28.ch hch74 (fun s hs => by first | (have := hO28.off s hs; simp; omega) | (have := hub54 s hs; simp; omega))
      replace hO15 := hO15.ch hch74 (fun s hs => by first | (have := hO15.off s hs; simp; omega) | (have := hubOut s hs; simp; omega))
      replace hD := hD.ch hch74 (fun s hs => by simp at hs; subst hs; first | omega | (right; left; simp; done))
      replace hc := hc.step hch74 (fun s hs => .inl hs)
      clear hRd; have hRd := hRd73; clear hRd73
      refine rw_cons (op_pv (w0 rfl) rfl rfl (pv_eql rfl rfl rfl) ?_)
      refine rw_cons (op_pv (w0 rfl) rfl rfl (pv_move (v := (.bool (decide ((r68 : Int) = 0)))) rfl rfl) ?_)
      refine rw_split 21 rfl (fun hb76 => ?_) (fun hb76 => ?_)
      · -- yes
        replace hb76 := of_decide_eq_true hb76
        refine rw_cons (op_pv (w1y rfl rfl rfl rfl) rfl rfl (pv_move (v := (.slice Ao hs.length co)) rfl rfl) ?_)
        refine rw_cons (op_pv (w1y rfl rfl rfl rfl) rfl rfl (pv_len Try.underlying24 rfl rfl) ?_)
        refine rw_cons (op_pv (w1y rfl rfl rfl rfl) rfl rfl (pv_lss rfl rfl rfl) ?_)
        refine rw_cons (op_pv (w0 rfl) rfl rfl (pv_pickT (v := (.bool (decide ((hs.length : Int) < 8)))) rfl rfl rfl) ?_)
        refine rw_nil (hK67 _ _ ?_)
        refine hK65 _ _ ?_
        refine cw_cond rfl (fun h77 => ?_) (fun h77 => ?_)
        · -- then
          replace h77 := of_decide_eq_true h77
          refine cw_seq fun K78 hK79 => ?_
          refine cw_region fun K80 hK81 => ?_
          refine rw_cons (op_pv (w0 rfl) rfl rfl (pv_move (v := (.slice (some ⟨g23, 0, none⟩) 9 9)) rfl rfl) ?_)
          refine rw_cons (op_pv (w0 rfl) rfl rfl (pv_move (v := (.int .i64 (i : Int))) rfl rfl) ?_)
          refine rw_cons (op_pv (w0 rfl) rfl rfl (pv_idx Try.underlying74 T9 rfl rfl rfl ((hO28.rs (fun _ => rfl)).some (k := i) (by omega)) (by omega) (by omega)) ?_)
          refine rw_cons (op_lv (w0 rfl) rfl rfl (lv_load T9 rfl rfl ((hO28.rs (fun _ => rfl)).cell0 (k := i) (by omega) rfl)) ?_)
          refine rw_cons (op_bslice [] Try.underlying25 T3 (w0 rfl) rfl rfl rfl rfl rfl (by simp [Value.cells]) (by decide) ?_)
          intro g83 w82 hg86 hg87 hK85 hch84
          have hO88 : Own encI 1 w82 w69.heap.size 3 (.slice (some ⟨g83, 0, none⟩) 0 0) ([] : List Int) := Blk.own (xs := ([] : List Int)) hK85 (by omega) rfl (by decide) rfl
          have hsz89 := hch84.size
          replace hO28 := hO28.ch0 hch84
          replace hO15 := hO15.ch0 hch84
          replace hRd := hRd.ch0 hch84
          replace hD := hD.ch0 hch84
          replace hc := hc.step0 hch84
          have hub90 := hO88.lt
          have hdj91 : ∀ s ∈ obl (.slice (some ⟨g23, 0, none⟩) 9 9), s ∉ obl (.slice (some ⟨g83, 0, none⟩) 0 0) := fun s hs hs2 => by first | (have h1 := hub54 s hs; have h2 := hO88.off s hs2; omega) | (simp [obl, Value.ownBlock] at hs; done) | (simp [obl, Value.ownBlock] at hs2; done) | (have h1 := hub54 s hs; simp [obl, Value.ownBlock] at hs2; omega)
          have hdj92 : ∀ s ∈ obl (.slice Ao hs.length co), s ∉ obl (.slice (some ⟨g83, 0, none⟩) 0 0) := fun s hs hs2 => by first | (have h1 := hubOut s hs; have h2 := hO88.off s hs2; omega) | (simp [obl, Value.ownBlock] at hs; done) | (simp [obl, Value.ownBlock] at hs2; done) | (have h1 := hubOut s hs; simp [obl, Value.ownBlock] at hs2; omega)
          refine rw_cons (op_pv (w0 rfl) rfl rfl (pv_build rfl rfl (B48_0S_1SL _ _ _ _)) ?_)
          refine rw_cons (op_alloc T48 (w0 rfl) rfl rfl rfl ?_)
          rintro g94 w93 hg97 hg98 hB96 hch95
          have hsz99 := hch95.size
          replace hO28 := hO28.ch0 hch95
          replace hO15 := hO15.ch0 hch95
          replace hRd := hRd.ch0 hch95
          replace hD := hD.ch0 hch95
          replace hO88 := hO88.ch0 hch95
          replace hc := hc.step0 hch95
          replace hB96 : Blk w93 g94 48 [(.string ByteArray.empty), (.slice none 0 0)] := hB96
          have hdj100 : ∀ s ∈ obl (.slice (some ⟨g23, 0, none⟩) 9 9), s ≠ g94 := fun s hs => by have := hub54 s hs; omega
          have hdj101 : ∀ s ∈ obl (.slice Ao hs.length co), s ≠ g94 := fun s hs => by have := hubOut s hs; omega
          have hdj102 : ∀ s ∈ obl (.slice (some ⟨g83, 0, none⟩) 0 0), s ≠ g94 := fun s hs => by have := hub90 s hs; omega
          refine rw_cons (op_store_blk T48 hB96 (w0 rfl) rfl rfl rfl rfl rfl (one_all rfl) (Nat.le_of_ble_eq_true rfl) ?_)
          rintro w103 hB105 hch104
          have hsz106 := hch104.size
          replace hO28 := hO28.ch hch104 (fun s hs => by have := dj_asg hdj100 s hs; simpa using this)
          replace hO15 := hO15.ch hch104 (fun s hs => by have := dj_asg hdj101 s hs; simpa using this)
          replace hRd := hRd.ch hch104 (off1 (by omega))
          replace hD := hD.ch hch104 (fun s hs => by simp at hs; subst hs; first | omega | (right; left; simp; done))
          replace hO88 := hO88.ch hch104 (fun s hs => by have := dj_asg hdj102 s hs; simpa using this)
          replace hc := hc.step hch104 (fun s hs => by simp at hs; first | (left; simp; omega) | (right; omega))
          replace hB96 : Blk w103 g94 48 [(.string (el ([(ByteArray.mk #[97, 98]), (ByteArray.mk #[98]), (ByteArray.mk #[99, 97, 116]), (ByteArray.mk #[100, 111, 103]), (ByteArray.mk #[101]), (ByteArray.mk #[102, 111, 120]), (ByteArray.mk #[103]), (ByteArray.mk #[104, 97, 116]), (ByteArray.mk #[105, 98, 105, 115])] : List ByteArray) i)), (.slice (some ⟨g83, 0, none⟩) 0 0)] := hB105
          clear hB105
          refine rw_nil (hK81 _ _ ?_)
          refine hK79 _ _ ?_
          refine cw_seq fun K107 hK108 => ?_
          refine cw_region fun K109 hK110 => ?_
          refine rw_cons (op_pv (w0 rfl) rfl rfl (pv_move (v := (.pointer (some (⟨g, 0, none⟩)))) rfl rfl) ?_)
          refine rw_cons (op_call (w0 rfl) rfl rfl (rc_call C62 rfl rfl) (pick_ok _ _ _ _ hRd (by omega)) ?_)
          rintro _ w112 ⟨r111, rfl, hr113, hr114, hr115, hRd116, hch117⟩
          have hsz118 := hch117.size
          replace hO28 := hO28.ch hch117 (fun s hs => by first | (have := hO28.off s hs; simp; omega) | (have := hub54 s hs; simp; omega))
          replace hO15 := hO15.ch hch117 (fun s hs => by first | (have := hO15.off s hs; simp; omega) | (have := hubOut s hs; simp; omega))
          replace hD := hD.ch hch117 (fun s hs => by simp at hs; subst hs; first | omega | (right; left; simp; done))
          replace hO88 := hO88.ch hch117 (fun s hs => by first | (have := hO88.off s hs; simp; omega) | (have := hub90 s hs; simp; omega))
          replace hB96 := hB96.ch hch117 (by simp; omega)
          replace hc := hc.step hch117 (fun s hs => .inl hs)
          clear hRd; have hRd := hRd116; clear hRd116
          refine rw_cons (op_pv (w0 rfl) rfl rfl (pv_assign (v := (.int .i64 r111)) rfl rfl) ?_)
          refine rw_nil (hK110 _ _ ?_)
          refine hK108 _ _ ?_
          refine cw_seq fun K119 hK120 => ?_
          refine cw_seq fun K121 hK122 => ?_
          refine cw_region fun K123 hK124 => ?_
          refine rw_cons (op_pv (w0 rfl) rfl rfl (pv_assign (v := (.int .i64 0)) rfl rfl) ?_)
          refine rw_nil (hK124 _ _ ?_)
          refine hK122 _ _ ?_
          refine cw_block ?_
          refine cw_loop (σ := Nat × Int × (Option Addr) × Nat × (List Int)) (fun ⟨j, q, Ap, cp, ps⟩ => [(5, (.int .i64 q)), (9, (.int .i64 (j : Int))), (0, (.pointer (some (⟨g, 0, none⟩)))), (2, (.slice none 0 0)), (3, (.slice Ao hs.length co)), (4, (.slice (some ⟨g23, 0, none⟩) 9 9)), (6, (.int .i64 (i : Int))), (7, (.pointer (some (⟨g94, 0, none⟩)))), (8, (.int .i64 r111)), (12, (.int .i64 (i : Int))), (13, (.slice (some ⟨g23, 0, none⟩) 9 9)), (14, (.int .i64 (9 : Int))), (15, (.bool (decide ((i : Int) < (9 : Int))))), (18, (.pointer (some (⟨g, 0, none⟩)))), (19, (.int .i64 r68)), (20, (.bool (decide ((r68 : Int) = 0)))), (21, (.bool true)), (22, (.slice Ao hs.length co)), (23, (.int .i64 (hs.length : Int))), (24, (.bool (decide ((hs.length : Int) < 8)))), (25, (.bool (decide ((hs.length : Int) < 8)))), (26, (.slice (some ⟨g23, 0, none⟩) 9 9)), (27, (.int .i64 (i : Int))), (28, (.pointer (some ((adr (some ⟨g23, 0, none⟩)).add (i * 1))))), (29, (.string (el ([(ByteArray.mk #[97, 98]), (ByteArray.mk #[98]), (ByteArray.mk #[99, 97, 116]), (ByteArray.mk #[100, 111, 103]), (ByteArray.mk #[101]), (ByteArray.mk #[102, 111, 120]), (ByteArray.mk #[103]), (ByteArray.mk #[104, 97, 116]), (ByteArray.mk #[105, 98, 105, 115])] : List ByteArray) i))), (30, (.slice (some ⟨g83, 0, none⟩) 0 0)), (31, (.agg #[(.string (el ([(ByteArray.mk #[97, 98]), (ByteArray.mk #[98]), (ByteArray.mk #[99, 97, 116]), (ByteArray.mk #[100, 111, 103]), (ByteArray.mk #[101]), (ByteArray.mk #[102, 111, 120]), (ByteArray.mk #[103]), (ByteArray.mk #[104, 97, 116]), (ByteArray.mk #[105, 98, 105, 115])] : List ByteArray) i)), (.slice (some ⟨g83, 0, none⟩) 0 0)])), (32, (.pointer (some (⟨g, 0, none⟩)))), (33, (.int .i64 r111))]) (fun ⟨j, q, Ap, cp, ps⟩ W => ((j : Int) ≤ r111 ∧ p ≤ q ∧ q ≤ p + 2 * j ∧ ps.length = j ∧ ∀ s ∈ obl (.slice Ap ps.length cp), s ≠ g94) ∧ Own encS 1 W w9.heap.size 9 (.slice (some ⟨g23, 0, none⟩) 9 9) ([(ByteArray.mk #[97, 98]), (ByteArray.mk #[98]), (ByteArray.mk #[99, 97, 116]), (ByteArray.mk #[100, 111, 103]), (ByteArray.mk #[101]), (ByteArray.mk #[102, 111, 120]), (ByteArray.mk #[103]), (ByteArray.mk #[104, 97, 116]), (ByteArray.mk #[105, 98, 105, 115])] : List ByteArray) ∧ Own encF 2 W w.heap.size 48 (.slice Ao hs.length co) hs ∧ DX w.heap.size B1_52 (obl (.slice Ao hs.length co)) W hs ∧ Blk W g94 48 [(.string (el ([(ByteArray.mk #[97, 98]), (ByteArray.mk #[98]), (ByteArray.mk #[99, 97, 116]), (ByteArray.mk #[100, 111, 103]), (ByteArray.mk #[101]), (ByteArray.mk #[102, 111, 120]), (ByteArray.mk #[103]), (ByteArray.mk #[104, 97, 116]), (ByteArray.mk #[105, 98, 105, 115])] : List ByteArray) i)), .slice Ap ps.length cp] ∧ Own encI 1 W w69.heap.size 3 (.slice Ap ps.length cp) ps ∧ Rd 77 W g (N + 6 * i + 2 + j) ∧ Ch [g] w W ∧ B1_52 ≤ W.heap.size ∧ w69.heap.size ≤ W.heap.size ∧ w9.heap.size ≤ W.heap.size ∧ (∀ s ∈ obl (.slice (some ⟨g23, 0, none⟩) 9 9), s ∉ obl (.slice Ap ps.length cp)) ∧ (∀ s ∈ obl (.slice Ao hs.length co), s ∉ obl (.slice Ap ps.length cp))) (fun ⟨j, q, Ap, cp, ps⟩ => (r111).toNat - j) (0, p, (some ⟨g83, 0, none⟩), 0, []) ?_ ?_ ?_
          · exact ⟨rfl, rfl, rfl, rfl, rfl, rfl, rfl, rfl, rfl, rfl, rfl, rfl, rfl, rfl, rfl, rfl, rfl, rfl, rfl, rfl, rfl, rfl, rfl, rfl, rfl, rfl, rfl, rfl, rfl, trivial⟩
          · refine ⟨⟨by omega, by omega, by omega, rfl, fun s hs => dj_asg hdj102 s hs⟩, hO28, hO15, hD, hB96, hO88.less (by omega), (hRd.up (by omega)), hc, (by omega), (by omega), (by omega), (fun s hs hs2 => by first | (have h1 := hO28.off s hs; have h2 := hubOut s hs2; omega) | (have h1 := hO28.off s hs; have h2 := hub90 s hs2; omega) | (have h1 := hO15.off s hs; have h2 := hub54 s hs2; omega) | (have h1 := hO15.off s hs; have h2 := hub30 s hs2; omega) | (have h1 := hO15.off s hs; have h2 := hub90 s hs2; omega) | (have h1 := hO88.off s hs; have h2 := hub54 s hs2; omega) | (have h1 := hO88.off s hs; have h2 := hub30 s hs2; omega) | (have h1 := hO88.off s hs; have h2 := hubOut s hs2; omega) | (have h1 := hub54 s hs; have h2 := hO15.off s hs2; omega) | (have h1 := hub30 s hs; have h2 := hO15.off s hs2; omega) | (have h1 := hub54 s hs; have h2 := hO88.off s hs2; omega) | (have h1 := hub30 s hs; have h2 := hO88.off s hs2; omega) | (have h1 := hubOut s hs; have h2 := hO28.off s hs2; omega) | (have h1 := hubOut s hs; have h2 := hO88.off s hs2; omega) | (have h1 := hub90 s hs; have h2 := hO28.off s hs2; omega) | (have h1 := hub90 s hs; have h2 := hO15.off s hs2; omega) | (simp [obl, Value.ownBlock] at hs; done) | (simp [obl, Value.ownBlock] at hs2; done) | exact dj_as hdj31 s hs hs2 | exact dj_as hdj44 s hs hs2 | exact dj_as hdj91 s hs hs2 | exact dj_as hdj92 s hs hs2 | exact dj_sw hdj31 s hs hs2 | exact dj_sw hdj44 s hs hs2 | exact dj_sw hdj91 s hs hs2 | exact dj_sw hdj92 s hs hs2), (fun s hs hs2 => by first | (have h1 := hO28.off s hs; have h2 := hubOut s hs2; omega) | (have h1 := hO28.off s hs; have h2 := hub90 s hs2; omega) | (have h1 := hO15.off s hs; have h2 := hub54 s hs2; omega) | (have h1 := hO15.off s hs; have h2 := hub30 s hs2; omega) | (have h1 := hO15.off s hs; have h2 := hub90 s hs2; omega) | (have h1 := hO88.off s hs; have h2 := hub54 s hs2; omega) | (have h1 := hO88.off s hs; have h2 := hub30 s hs2; omega) | (have h1 := hO88.off s hs; have h2 := hubOut s hs2; omega) | (have h1 := hub54 s hs; have h2 := hO15.off s hs2; omega) | (have h1 := hub30 s hs; have h2 := hO15.off s hs2; omega) | (have h1 := hub54 s hs; have h2 := hO88.off s hs2; omega) | (have h1 := hub30 s hs; have h2 := hO88.off s hs2; omega) | (have h1 := hubOut s hs; have h2 := hO28.off s hs2; omega) | (have h1 := hubOut s hs; have h2 := hO88.off s hs2; omega) | (have h1 := hub90 s hs; have h2 := hO28.off s hs2; omega) | (have h1 := hub90 s hs; have h2 := hO15.off s hs2; omega) | (simp [obl, Value.ownBlock] at hs; done) | (simp [obl, Value.ownBlock] at hs2; done) | exact dj_as hdj31 s hs hs2 | exact dj_as hdj44 s hs hs2 | exact dj_as hdj91 s hs hs2 | exact dj_as hdj92 s hs hs2 | exact dj_sw hdj31 s hs hs2 | exact dj_sw hdj44 s hs hs2 | exact dj_sw hdj91 s hs hs2 | exact dj_sw hdj92 s hs hs2)⟩
          · rintro ⟨j, q, Ap, cp, ps⟩ J134 w125 ⟨⟨hj, hq1, hq2, hpl, hgp⟩, hO28, hO15, hD, hB96, hO88, hRd, hc, hmono126, hmono127, hmono128, hdj129, hdj130⟩ K131 hK132
            have hsz136 := hc.size
            have hbl137 := hB96.lt
            have hlt138 := hRd.lt
            have hub139 := hO28.lt
            have hub140 := hO15.lt
            have hubP := hO88.lt
            refine cw_seq fun K141 hK142 => ?_
            refine cw_seq fun K143 hK144 => ?_
            refine cw_region fun K145 hK146 => ?_
            refine rw_cons (op_pv (w0 rfl) rfl rfl (pv_move (v := (.int .i64 (j : Int))) rfl rfl) ?_)
            refine rw_cons (op_pv (w0 rfl) rfl rfl (pv_move (v := (.int .i64 r111)) rfl rfl) ?_)
            refine rw_cons (op_pv (w0 rfl) rfl rfl (pv_lss rfl rfl rfl) ?_)
            refine rw_nil (hK146 _ _ ?_)
            refine hK144 _ _ ?_
            refine cw_cond rfl (fun h147 => ?_) (fun h147 => ?_)
            · -- then
              replace h147 := of_decide_eq_true h147
              refine cw_skip ?_
              refine hK142 _ _ ?_
              refine cw_seq fun K148 hK149 => ?_
              refine cw_block ?_
              refine cw_seq fun K150 hK151 => ?_
              refine cw_region fun K152 hK153 => ?_
              refine rw_cons (op_pv (w0 rfl) rfl rfl (pv_move (v := (.int .i64 q)) rfl rfl) ?_)
              refine rw_cons (op_pv (w0 rfl) rfl rfl (pv_move (v := (.pointer (some (⟨g, 0, none⟩)))) rfl rfl) ?_)
              refine rw_cons (op_call (w0 rfl) rfl rfl (rc_call C62 rfl rfl) (pick_ok _ _ _ _ hRd (by omega)) ?_)
              rintro _ w155 ⟨r154, rfl, hr156, hr157, hr158, hRd159, hch160⟩
              have hsz161 := hch160.size
              replace hO28 := hO28.ch hch160 (fun s hs => by first | (have := hO28.off s hs; simp; omega) | (have := hub139 s hs; simp; omega))
              replace hO15 := hO15.ch hch160 (fun s hs => by first | (have := hO15.off s hs; simp; omega) | (have := hub140 s hs; simp; omega))
              replace hD := hD.ch hch160 (fun s hs => by simp at hs; subst hs; first | omega | (right; left; simp; done))
              replace hB96 := hB96.ch hch160 (by simp; omega)
              replace hO88 := hO88.ch hch160 (fun s hs => by first | (have := hO88.off s hs; simp; omega) | (have := hubP s hs; simp; omega))
              replace hc := hc.step hch160 (fun s hs => .inl hs)
              clear hRd; have hRd := hRd159; clear hRd159
              refine rw_cons (op_pv (w0 rfl) rfl rfl (pv_add rfl rfl rfl (by omega) (by omega)) ?_)
              refine rw_cons (op_pv (w0 rfl) rfl rfl (pv_assign (v := (.int .i64 (q + r154))) rfl rfl) ?_)
              refine rw_nil (hK153 _ _ ?_)
              refine hK151 _ _ ?_
              refine cw_seq fun K162 hK163 => ?_
              refine cw_region fun K164 hK165 => ?_
              refine rw_cons (op_pv (w0 rfl) rfl rfl (pv_fld F48_1 rfl rfl) ?_)
              refine rw_cons (op_lv (w0 rfl) rfl rfl (lv_load T25 rfl rfl (hB96.cellA (i := 1) rfl)) ?_)
              refine rw_cons (op_pv (w0 rfl) rfl rfl (pv_move (v := (.int .i64 (q + r154))) rfl rfl) ?_)
              have hgl166 := hB96.lt
              refine rw_cons (op_bslice [(.int .i64 (q + r154))] Try.underlying25 T3 (w0 rfl) rfl rfl rfl rfl rfl (by simp [Value.cells]) (by decide) ?_)
              intro g168 w167 hg171 hg172 hK170 hch169
              have hO173 : Own encI 1 w167 w155.heap.size 3 (.slice (some ⟨g168, 0, none⟩) 1 1) ([q + r154] : List Int) := Blk.own (xs := ([q + r154] : List Int)) hK170 (by omega) rfl (by decide) rfl
              have hsz174 := hch169.size
              replace hO28 := hO28.ch0 hch169
              replace hO15 := hO15.ch0 hch169
              replace hD := hD.ch0 hch169
              replace hB96 := hB96.ch0 hch169
              replace hO88 := hO88.ch0 hch169
              replace hRd := hRd.ch0 hch169
              replace hc := hc.step0 hch169
              have hub175 := hO173.lt
              have hdj176 : ∀ s ∈ obl (.slice (some ⟨g168, 0, none⟩) 1 1), s ≠ g94 := fun s hs => by first | (have h1 := hO173.off s hs; omega) | (simp [obl, Value.ownBlock] at hs; done) | (simp [obl, Value.ownBlock] at hs; omega)
              have hdj177 : ∀ s ∈ obl (.slice (some ⟨g23, 0, none⟩) 9 9), s ∉ obl (.slice (some ⟨g168, 0, none⟩) 1 1) := fun s hs hs2 => by first | (have h1 := hub139 s hs; have h2 := hO173.off s hs2; omega) | (simp [obl, Value.ownBlock] at hs; done) | (simp [obl, Value.ownBlock] at hs2; done) | (have h1 := hub139 s hs; simp [obl, Value.ownBlock] at hs2; omega)
              have hdj178 : ∀ s ∈ obl (.slice Ao hs.length co), s ∉ obl (.slice (some ⟨g168, 0, none⟩) 1 1) := fun s hs hs2 => by first | (have h1 := hub140 s hs; have h2 := hO173.off s hs2; omega) | (simp [obl, Value.ownBlock] at hs; done) | (simp [obl, Value.ownBlock] at hs2; done) | (have h1 := hub140 s hs; simp [obl, Value.ownBlock] at hs2; omega)
              have hdj179 : ∀ s ∈ obl (.slice Ap ps.length cp), s ∉ obl (.slice (some ⟨g168, 0, none⟩) 1 1) := fun s hs hs2 => by first | (have h1 := hubP s hs; have h2 := hO173.off s hs2; omega) | (simp [obl, Value.ownBlock] at hs; done) | (simp [obl, Value.ownBlock] at hs2; done) | (have h1 := hubP s hs; simp [obl, Value.ownBlock] at hs2; omega)
              refine rw_cons (op_append Try.underlying25 T3 (fun _ => rfl) rfl (by decide) (fun _ => one_all rfl) (w0 rfl) rfl rfl rfl rfl rfl hO88 (hO173.rs (fun _ => rfl)) (by unfold maxLen; first | omega | (simp; omega)) (by first | omega | (simp; omega)) (by omega) ?_)
              rintro v180 w181 hO182 hch183 hs184
              have hl185 : (ps ++ ([q + r154] : List Int)).length = ps.length + 1 := by first | (have hl0 := (hO173.rs (fun _ => rfl)).len; omega) | (have hl0 := (hO173.rs (fun _ => rfl)).len; simp only [List.length_append, List.length_cons, List.length_nil] at hl0 ⊢; omega) | (simp; omega; done) | simp | rfl
              clear hO173
              have hgl187 := hB96.lt
              have hsz190 := hch183.size
              replace hO28 := hO28.ch hch183 (dj_as hdj129)
              replace hO15 := hO15.ch hch183 (dj_as hdj130)
              replace hD := hD.ch hch183 (fun s hs => by first | exact .inr (.inl hs) | exact .inr (.inl (obl_any hs)) | exact .inr (.inr (Nat.le_trans (by omega) (hO88.off s hs))) | exact .inl (Nat.lt_of_lt_of_le (hubP s hs) (by omega)))
              replace hB96 := hB96.ch hch183 (fun hs => dj_asg hgp _ hs rfl)
              replace hRd := hRd.ch hch183 (hO88.off.le (by omega))
              replace hc := hc.step hch183 (fun s hs => .inr (Nat.le_trans (by omega) (hO88.off s hs)))
              have hub191 := hO182.lt
              obtain ⟨A192, c193, hv194, hcap195, hcap196⟩ := hO182.form; subst hv194
              have hdj186 : ∀ s ∈ obl (.slice A192 (ps ++ ([q + r154] : List Int)).length c193), s ≠ g94 := dj_newg hs184 (dj_asg hgp) (by omega)
              have hdj188 : ∀ s ∈ obl (.slice A192 (ps ++ ([q + r154] : List Int)).length c193), s ∉ obl (.slice (some ⟨g23, 0, none⟩) 9 9) := dj_new hs184 (dj_sw hdj129) (fun s hs => by have := hub139 s hs; omega)
              have hdj189 : ∀ s ∈ obl (.slice A192 (ps ++ ([q + r154] : List Int)).length c193), s ∉ obl (.slice Ao hs.length co) := dj_new hs184 (dj_sw hdj130) (fun s hs => by have := hub140 s hs; omega)
              refine rw_cons (op_pv (w0 rfl) rfl rfl (pv_fld F48_1 rfl rfl) ?_)
              refine rw_cons (op_store_blk T25 hB96 (w0 rfl) rfl rfl rfl rfl rfl (one_all rfl) (Nat.le_of_ble_eq_true rfl) ?_)
              rintro w197 hB199 hch198
              have hsz200 := hch198.size
              replace hO28 := hO28.ch hch198 (fun s hs => by have := dj_asg hdj100 s hs; simpa using this)
              replace hO15 := hO15.ch hch198 (fun s hs => by have := dj_asg hdj101 s hs; simpa using this)
              replace hD := hD.ch hch198 (fun s hs => by simp at hs; subst hs; first | omega | (right; left; simp; done))
              replace hRd := hRd.ch hch198 (off1 (by omega))
              replace hO182 := hO182.ch hch198 (fun s hs => by have := dj_asg hdj186 s hs; simpa using this)
              replace hc := hc.step hch198 (fun s hs => by simp at hs; first | (left; simp; omega) | (right; omega))
              replace hB96 : Blk w197 g94 48 [(.string (el ([(ByteArray.mk #[97, 98]), (ByteArray.mk #[98]), (ByteArray.mk #[99, 97, 116]), (ByteArray.mk #[100, 111, 103]), (ByteArray.mk #[101]), (ByteArray.mk #[102, 111, 120]), (ByteArray.mk #[103]), (ByteArray.mk #[104, 97, 116]), (ByteArray.mk #[105, 98, 105, 115])] : List ByteArray) i)), (.slice A192 (ps ++ ([q + r154] : List Int)).length c193)] := hB199
              clear hB199
              refine rw_nil (hK165 _ _ ?_)
              refine hK163 _ _ ?_
              refine cw_region fun K201 hK202 => ?_
              refine rw_cons (op_pv (w0 rfl) rfl rfl (pv_move (v := (.int .i64 (q + r154))) rfl rfl) ?_)
              refine rw_cons (op_pv (w0 rfl) rfl rfl (pv_add rfl rfl rfl (by omega) (by omega)) ?_)
              refine rw_cons (op_pv (w0 rfl) rfl rfl (pv_assign (v := (.int .i64 ((q + r154) + 1))) rfl rfl) ?_)
              refine rw_nil (hK202 _ _ ?_)
              refine hK149 _ _ ?_
              refine cw_region fun K203 hK204 => ?_
              refine rw_cons (op_pv (w0 rfl) rfl rfl (pv_move (v := (.int .i64 (j : Int))) rfl rfl) ?_)
              refine rw_cons (op_pv (w0 rfl) rfl rfl (pv_add rfl rfl rfl (by omega) (by omega)) ?_)
              refine rw_cons (op_pv (w0 rfl) rfl rfl (pv_assign (v := (.int .i64 ((j : Int) + 1))) rfl rfl) ?_)
              refine rw_nil (hK204 _ _ ?_)
              replace hRd := hRd.up (M := N + 6 * i + 2 + (j + 1)) (by omega)
              refine hK132 _ _ (j + 1, (q + r154) + 1, A192, c193, (ps ++ ([q + r154] : List Int))) ⟨(iv (by omega)), (iv (by omega)), rfl, rfl, rfl, rfl, rfl, rfl, rfl, rfl, rfl, rfl, rfl, rfl, rfl, rfl, rfl, rfl, rfl, rfl, rfl, rfl, rfl, rfl, rfl, rfl, rfl, rfl, rfl, trivial⟩ ⟨?_, hO28, hO15, hD, hB96, hO182, hRd, hc, (by omega), (by omega), (by omega), (dj_sw hdj188), (dj_sw hdj189)⟩ ?_
              · exact ⟨by omega, by omega, by omega, by simp; omega, fun s hs => dj_asg hdj186 s hs⟩
              · show (r111).toNat - (j + 1) < (r111).toNat - j; omega
            · -- else
              replace h147 := of_decide_eq_false h147
              refine cw_exit ?_
              refine hK120 _ _ ?_
              refine cw_region fun K205 hK206 => ?_
              refine rw_cons (op_pv (w0 rfl) rfl rfl (pv_move (v := (.slice Ao hs.length co)) rfl rfl) ?_)
              refine rw_cons (op_lv (w0 rfl) rfl rfl (lv_loadN T48 rfl rfl rfl (fun j v hv => hB96.cellA hv)) ?_)
              have hgl207 := hB96.lt
              refine rw_cons (op_bslice [(.agg #[(.string (el ([(ByteArray.mk #[97, 98]), (ByteArray.mk #[98]), (ByteArray.mk #[99, 97, 116]), (ByteArray.mk #[100, 111, 103]), (ByteArray.mk #[101]), (ByteArray.mk #[102, 111, 120]), (ByteArray.mk #[103]), (ByteArray.mk #[104, 97, 116]), (ByteArray.mk #[105, 98, 105, 115])] : List ByteArray) i)), (.slice Ap ps.length cp)])] Try.underlying24 T48 (w0 rfl) rfl rfl rfl rfl rfl (by simp [Value.cells]) (by decide) ?_)
              intro g209 w208 hg212 hg213 hK211 hch210
              have hO214 : Own encF 2 w208 w125.heap.size 48 (.slice (some ⟨g209, 0, none⟩) 1 1) ([⟨(el ([(ByteArray.mk #[97, 98]), (ByteArray.mk #[98]), (ByteArray.mk #[99, 97, 116]), (ByteArray.mk #[100, 111, 103]), (ByteArray.mk #[101]), (ByteArray.mk #[102, 111, 120]), (ByteArray.mk #[103]), (ByteArray.mk #[104, 97, 116]), (ByteArray.mk #[105, 98, 105, 115])] : List ByteArray) i), Ap, ps.length, cp, ps⟩] : List Fl) := Blk.own (xs := ([⟨(el ([(ByteArray.mk #[97, 98]), (ByteArray.mk #[98]), (ByteArray.mk #[99, 97, 116]), (ByteArray.mk #[100, 111, 103]), (ByteArray.mk #[101]), (ByteArray.mk #[102, 111, 120]), (ByteArray.mk #[103]), (ByteArray.mk #[104, 97, 116]), (ByteArray.mk #[105, 98, 105, 115])] : List ByteArray) i), Ap, ps.length, cp, ps⟩] : List Fl)) hK211 (by omega) rfl (by decide) rfl
              have hsz215 := hch210.size
              replace hO28 := hO28.ch0 hch210
              replace hO15 := hO15.ch0 hch210
              replace hD := hD.ch0 hch210
              replace hB96 := hB96.ch0 hch210
              replace hO88 := hO88.ch0 hch210
              replace hRd := hRd.ch0 hch210
              replace hc := hc.step0 hch210
              have hub216 := hO214.lt
              have hdj217 : ∀ s ∈ obl (.slice (some ⟨g209, 0, none⟩) 1 1), s ≠ g94 := fun s hs => by first | (have h1 := hO214.off s hs; omega) | (simp [obl, Value.ownBlock] at hs; done) | (simp [obl, Value.ownBlock] at hs; omega)
              have hdj218 : ∀ s ∈ obl (.slice (some ⟨g23, 0, none⟩) 9 9), s ∉ obl (.slice (some ⟨g209, 0, none⟩) 1 1) := fun s hs hs2 => by first | (have h1 := hub139 s hs; have h2 := hO214.off s hs2; omega) | (simp [obl, Value.ownBlock] at hs; done) | (simp [obl, Value.ownBlock] at hs2; done) | (have h1 := hub139 s hs; simp [obl, Value.ownBlock] at hs2; omega)
              have hdj219 : ∀ s ∈ obl (.slice Ao hs.length co), s ∉ obl (.slice (some ⟨g209, 0, none⟩) 1 1) := fun s hs hs2 => by first | (have h1 := hub140 s hs; have h2 := hO214.off s hs2; omega) | (simp [obl, Value.ownBlock] at hs; done) | (simp [obl, Value.ownBlock] at hs2; done) | (have h1 := hub140 s hs; simp [obl, Value.ownBlock] at hs2; omega)
              have hdj220 : ∀ s ∈ obl (.slice Ap ps.length cp), s ∉ obl (.slice (some ⟨g209, 0, none⟩) 1 1) := fun s hs hs2 => by first | (have h1 := hubP s hs; have h2 := hO214.off s hs2; omega) | (simp [obl, Value.ownBlock] at hs; done) | (simp [obl, Value.ownBlock] at hs2; done) | (have h1 := hubP s hs; simp [obl, Value.ownBlock] at hs2; omega)
              refine rw_cons (op_append Try.underlying24 T48 (fun _ => rfl) rfl (by decide) (fun _ => one_all rfl) (w0 rfl) rfl rfl rfl rfl rfl hO15 (hO214.rs (fun _ => rfl)) (by unfold maxLen; first | omega | (simp; omega)) (by first | omega | (simp; omega)) (by omega) ?_)
              rintro v221 w222 hO223 hch224 hs225
              have hl226 : (hs ++ ([⟨(el ([(ByteArray.mk #[97, 98]), (ByteArray.mk #[98]), (ByteArray.mk #[99, 97, 116]), (ByteArray.mk #[100, 111, 103]), (ByteArray.mk #[101]), (ByteArray.mk #[102, 111, 120]), (ByteArray.mk #[103]), (ByteArray.mk #[104, 97, 116]), (ByteArray.mk #[105, 98, 105, 115])] : List ByteArray) i), Ap, ps.length, cp, ps⟩] : List Fl)).length = hs.length + 1 := by first | (have hl0 := (hO214.rs (fun _ => rfl)).len; omega) | (have hl0 := (hO214.rs (fun _ => rfl)).len; simp only [List.length_append, List.length_cons, List.length_nil] at hl0 ⊢; omega) | (simp; omega; done) | simp | rfl
              clear hO214
              have hgl229 := hB96.lt
              have hsz231 := hch224.size
              replace hO28 := hO28.ch hch224 (dj_as hdj44)
              replace hD := hD.ch hch224 (fun s hs => by first | exact .inr (.inl hs) | exact .inr (.inl (obl_any hs)) | exact .inr (.inr (Nat.le_trans (by omega) (hO15.off s hs))) | exact .inl (Nat.lt_of_lt_of_le (hub140 s hs) (by omega)))
              replace hB96 := hB96.ch hch224 (fun hs => dj_asg hdj101 _ hs rfl)
              replace hO88 := hO88.ch hch224 (dj_sw hdj130)
              replace hRd := hRd.ch hch224 (hO15.off.le (by omega))
              replace hc := hc.step hch224 (fun s hs => .inr (Nat.le_trans (by omega) (hO15.off s hs)))
              have hub232 := hO223.lt
              obtain ⟨A233, c234, hv235, hcap236, hcap237⟩ := hO223.form; subst hv235
              have hdj227 : ∀ s ∈ obl (.slice A233 (hs ++ ([⟨(el ([(ByteArray.mk #[97, 98]), (ByteArray.mk #[98]), (ByteArray.mk #[99, 97, 116]), (ByteArray.mk #[100, 111, 103]), (ByteArray.mk #[101]), (ByteArray.mk #[102, 111, 120]), (ByteArray.mk #[103]), (ByteArray.mk #[104, 97, 116]), (ByteArray.mk #[105, 98, 105, 115])] : List ByteArray) i), Ap, ps.length, cp, ps⟩] : List Fl)).length c234), s ∉ obl (.slice (some ⟨g23, 0, none⟩) 9 9) := dj_new hs225 (dj_sw hdj44) (fun s hs => by have := hub139 s hs; omega)
              have hdj228 : ∀ s ∈ obl (.slice A233 (hs ++ ([⟨(el ([(ByteArray.mk #[97, 98]), (ByteArray.mk #[98]), (ByteArray.mk #[99, 97, 116]), (ByteArray.mk #[100, 111, 103]), (ByteArray.mk #[101]), (ByteArray.mk #[102, 111, 120]), (ByteArray.mk #[103]), (ByteArray.mk #[104, 97, 116]), (ByteArray.mk #[105, 98, 105, 115])] : List ByteArray) i), Ap, ps.length, cp, ps⟩] : List Fl)).length c234), s ≠ g94 := dj_newg hs225 (dj_asg hdj101) (by omega)
              have hdj230 : ∀ s ∈ obl (.slice A233 (hs ++ ([⟨(el ([(ByteArray.mk #[97, 98]), (ByteArray.mk #[98]), (ByteArray.mk #[99, 97, 116]), (ByteArray.mk #[100, 111, 103]), (ByteArray.mk #[101]), (ByteArray.mk #[102, 111, 120]), (ByteArray.mk #[103]), (ByteArray.mk #[104, 97, 116]), (ByteArray.mk #[105, 98, 105, 115])] : List ByteArray) i), Ap, ps.length, cp, ps⟩] : List Fl)).length c234), s ∉ obl (.slice Ap ps.length cp) := dj_new hs225 (dj_as hdj130) (fun s hs => by have := hubP s hs; omega)
              refine rw_cons (op_pv (w0 rfl) rfl rfl (pv_assign (v := (.slice A233 (hs ++ ([⟨(el ([(ByteArray.mk #[97, 98]), (ByteArray.mk #[98]), (ByteArray.mk #[99, 97, 116]), (ByteArray.mk #[100, 111, 103]), (ByteArray.mk #[101]), (ByteArray.mk #[102, 111, 120]), (ByteArray.mk #[103]), (ByteArray.mk #[104, 97, 116]), (ByteArray.mk #[105, 98, 105, 115])] : List ByteArray) i), Ap, ps.length, cp, ps⟩] : List Fl)).length c234)) rfl rfl) ?_)
              refine rw_nil (hK206 _ _ ?_)
              refine hK63 _ _ ?_
              refine cw_region fun K238 hK239 => ?_
              refine rw_cons (op_pv (w0 rfl) rfl rfl (pv_move (v := (.int .i64 (i : Int))) rfl rfl) ?_)
              refine rw_cons (op_pv (w0 rfl) rfl rfl (pv_add rfl rfl rfl (by omega) (by omega)) ?_)
              refine rw_cons (op_pv (w0 rfl) rfl rfl (pv_assign (v := (.int .i64 ((i : Int) + 1))) rfl rfl) ?_)
              refine rw_nil (hK239 _ _ ?_)
              replace hRd := hRd.up (M := N + 6 * (i + 1)) (by omega)
              have hD9 : DXo w.heap.size (obl (.slice A233 (hs ++ ([⟨(el ([(ByteArray.mk #[97, 98]), (ByteArray.mk #[98]), (ByteArray.mk #[99, 97, 116]), (ByteArray.mk #[100, 111, 103]), (ByteArray.mk #[101]), (ByteArray.mk #[102, 111, 120]), (ByteArray.mk #[103]), (ByteArray.mk #[104, 97, 116]), (ByteArray.mk #[105, 98, 105, 115])] : List ByteArray) i), Ap, ps.length, cp, ps⟩] : List Fl)).length c234)) w222 (hs ++ ([⟨(el ([(ByteArray.mk #[97, 98]), (ByteArray.mk #[98]), (ByteArray.mk #[99, 97, 116]), (ByteArray.mk #[100, 111, 103]), (ByteArray.mk #[101]), (ByteArray.mk #[102, 111, 120]), (ByteArray.mk #[103]), (ByteArray.mk #[104, 97, 116]), (ByteArray.mk #[105, 98, 105, 115])] : List ByteArray) i), Ap, ps.length, cp, ps⟩] : List Fl)) := ⟨w222.heap.size, Nat.le_refl _, (hD.rex (fun s h => (hs225 s h).imp id (fun h => by omega))).snocO (el ([(ByteArray.mk #[97, 98]), (ByteArray.mk #[98]), (ByteArray.mk #[99, 97, 116]), (ByteArray.mk #[100, 111, 103]), (ByteArray.mk #[101]), (ByteArray.mk #[102, 111, 120]), (ByteArray.mk #[103]), (ByteArray.mk #[104, 97, 116]), (ByteArray.mk #[105, 98, 105, 115])] : List ByteArray) i) hO88 (by omega) (by omega) (dj_sw hdj230)⟩
              refine hK46 _ _ (i + 1, q, A233, c234, (hs ++ ([⟨(el ([(ByteArray.mk #[97, 98]), (ByteArray.mk #[98]), (ByteArray.mk #[99, 97, 116]), (ByteArray.mk #[100, 111, 103]), (ByteArray.mk #[101]), (ByteArray.mk #[102, 111, 120]), (ByteArray.mk #[103]), (ByteArray.mk #[104, 97, 116]), (ByteArray.mk #[105, 98, 105, 115])] : List ByteArray) i), Ap, ps.length, cp, ps⟩] : List Fl))) ⟨rfl, (iv (by omega)), (iv (by omega)), rfl, rfl, rfl, trivial⟩ ⟨?_, hO28, hO223, hRd, hD9, hc, (by omega), (dj_sw hdj227)⟩ ?_
              · exact ⟨by omega, by simp; omega, by omega, by omega, hZ.app (SzOK.one (by have := hnm _ (el_mem (j := i) (by omega)); dsimp only; omega) (by dsimp only; omega))⟩
              · (first | omega | (simp only []; omega))
        · -- else
          replace h77 := of_decide_eq_false h77
          refine cw_skip ?_
          refine hK63 _ _ ?_
          refine cw_region fun K240 hK241 => ?_
          refine rw_cons (op_pv (w0 rfl) rfl rfl (pv_move (v := (.int .i64 (i : Int))) rfl rfl) ?_)
          refine rw_cons (op_pv (w0 rfl) rfl rfl (pv_add rfl rfl rfl (by omega) (by omega)) ?_)
          refine rw_cons (op_pv (w0 rfl) rfl rfl (pv_assign (v := (.int .i64 ((i : Int) + 1))) rfl rfl) ?_)
          refine rw_nil (hK241 _ _ ?_)
          replace hRd := hRd.up (M := N + 6 * (i + 1)) (by omega)
          have hD9 : DXo w.heap.size (obl (.slice Ao hs.length co)) w69 hs := ⟨w69.heap.size, Nat.le_refl _, hD.more (by omega)⟩
          refine hK46 _ _ (i + 1, p, Ao, co, hs) ⟨rfl, (iv (by omega)), (iv (by omega)), rfl, rfl, rfl, trivial⟩ ⟨?_, hO28, hO15, hRd, hD9, hc, (by omega), (dj_as hdj44)⟩ ?_
          · exact ⟨by omega, by omega, by omega, by omega, hZ⟩
          · (first | omega | (simp only []; omega))
      · -- no
        replace hb76 := of_decide_eq_false hb76
        refine rw_cons (op_pass (w1n1 rfl rfl rfl rfl) rfl rfl ?_)
        refine rw_cons (op_pass (w1n1 rfl rfl rfl rfl) rfl rfl ?_)
        refine rw_cons (op_pass (w1n1 rfl rfl rfl rfl) rfl rfl ?_)
        refine rw_cons (op_pv (w0 rfl) rfl rfl (pv_pickF (v := (.bool false)) rfl rfl rfl) ?_)
        refine rw_nil (hK67 _ _ ?_)
        refine hK65 _ _ ?_
        refine cw_cond rfl (fun h242 => ?_) (fun h242 => ?_)
        · -- then
          cases h242
        · -- else
          clear h242
          refine cw_skip ?_
          refine hK63 _ _ ?_
          refine cw_region fun K243 hK244 => ?_
          refine rw_cons (op_pv (w0 rfl) rfl rfl (pv_move (v := (.int .i64 (i : Int))) rfl rfl) ?_)
          refine rw_cons (op_pv (w0 rfl) rfl rfl (pv_add rfl rfl rfl (by omega) (by omega)) ?_)
          refine rw_cons (op_pv (w0 rfl) rfl rfl (pv_assign (v := (.int .i64 ((i : Int) + 1))) rfl rfl) ?_)
          refine rw_nil (hK244 _ _ ?_)
          replace hRd := hRd.up (M := N + 6 * (i + 1)) (by omega)
          have hD9 : DXo w.heap.size (obl (.slice Ao hs.length co)) w69 hs := ⟨w69.heap.size, Nat.le_refl _, hD.more (by omega)⟩
          refine hK46 _ _ (i + 1, p, Ao, co, hs) ⟨rfl, (iv (by omega)), (iv (by omega)), rfl, rfl, rfl, trivial⟩ ⟨?_, hO28, hO15, hRd, hD9, hc, (by omega), (dj_as hdj44)⟩ ?_
          · exact ⟨by omega, by omega, by omega, by omega, hZ⟩
          · (first | omega | (simp only []; omega))
    · -- else
      replace h61 := of_decide_eq_false h61
      refine cw_exit ?_
      refine hK37 _ _ ?_
      refine cw_seq fun K245 hK246 => ?_
      refine cw_seq fun K247 hK248 => ?_
      refine cw_region fun K249 hK250 => ?_
      refine rw_cons (op_pv (w0 rfl) rfl rfl (pv_move (v := (.slice Ao hs.length co)) rfl rfl) ?_)
      refine rw_cons (op_pv (w0 rfl) rfl rfl (pv_len Try.underlying24 rfl rfl) ?_)
      refine rw_cons (op_pv (w0 rfl) rfl rfl (pv_gtr rfl rfl rfl) ?_)
      refine rw_cons (op_pv (w0 rfl) rfl rfl (pv_move (v := (.bool (decide (0 < (hs.length : Int))))) rfl rfl) ?_)
      refine rw_split 58 rfl (fun hb251 => ?_) (fun hb251 => ?_)
      · -- yes
        replace hb251 := of_decide_eq_true hb251
        refine rw_cons (op_pv (w1y rfl rfl rfl rfl) rfl rfl (pv_move (v := (.pointer (some (⟨g, 0, none⟩)))) rfl rfl) ?_)
        refine rw_cons (op_call (w1y rfl rfl rfl rfl) rfl rfl (rc_call C62 rfl rfl) (pick_ok _ _ _ _ hRd (by omega)) ?_)
        rintro _ w253 ⟨r252, rfl, hr254, hr255, hr256, hRd257, hch258⟩
        have hsz259 := hch258.size
        replace hO28 := hO28.ch hch258 (fun s hs => by first | (have := hO28.off s hs; simp; omega) | (have := hub54 s hs; simp; omega))
        replace hO15 := hO15.ch hch258 (fun s hs => by first | (have := hO15.off s hs; simp; omega) | (have := hubOut s hs; simp; omega))
        replace hD := hD.ch hch258 (fun s hs => by simp at hs; subst hs; first | omega | (right; left; simp; done))
        replace hc := hc.step hch258 (fun s hs => .inl hs)
        clear hRd; have hRd := hRd257; clear hRd257
        refine rw_cons (op_pv (w1y rfl rfl rfl rfl) rfl rfl (pv_eql rfl rfl rfl) ?_)
        refine rw_cons (op_pv (w0 rfl) rfl rfl (pv_pickT (v := (.bool (decide ((r252 : Int) = 0)))) rfl rfl rfl) ?_)
        refine rw_nil (hK250 _ _ ?_)
        refine hK248 _ _ ?_
        refine cw_cond rfl (fun h260 => ?_) (fun h260 => ?_)
        · -- then
          replace h260 := of_decide_eq_true h260
          refine cw_region fun K261 hK262 => ?_
          refine rw_cons (op_pv (w0 rfl) rfl rfl (pv_move (v := (.slice Ao hs.length co)) rfl rfl) ?_)
          refine rw_cons (op_pv (w0 rfl) rfl rfl (pv_move (v := (.pointer (some (⟨g, 0, none⟩)))) rfl rfl) ?_)
          refine rw_cons (op_pv (w0 rfl) rfl rfl (pv_move (v := (.slice Ao hs.length co)) rfl rfl) ?_)
          refine rw_cons (op_pv (w0 rfl) rfl rfl (pv_len Try.underlying24 rfl rfl) ?_)
          refine rw_cons (op_call (w0 rfl) rfl rfl (rc_call C62 rfl rfl) (pick_ok _ _ _ _ hRd (by omega)) ?_)
          rintro _ w264 ⟨r263, rfl, hr265, hr266, hr267, hRd268, hch269⟩
          have hsz270 := hch269.size
          replace hO28 := hO28.ch hch269 (fun s hs => by first | (have := hO28.off s hs; simp; omega) | (have := hub54 s hs; simp; omega))
          replace hO15 := hO15.ch hch269 (fun s hs => by first | (have := hO15.off s hs; simp; omega) | (have := hubOut s hs; simp; omega))
          replace hD := hD.ch hch269 (fun s hs => by simp at hs; subst hs; first | omega | (right; left; simp; done))
          replace hc := hc.step hch269 (fun s hs => .inl hs)
          clear hRd; have hRd := hRd268; clear hRd268
          refine rw_cons (op_bslice [(.int .i64 1), (.int .i64 1)] Try.underlying25 T3 (w0 rfl) rfl rfl rfl rfl rfl (by simp [Value.cells]) (by decide) ?_)
          intro g272 w271 hg275 hg276 hK274 hch273
          have hO277 : Own encI 1 w271 w264.heap.size 3 (.slice (some ⟨g272, 0, none⟩) 2 2) ([1, 1] : List Int) := Blk.own (xs := ([1, 1] : List Int)) hK274 (by omega) rfl (by decide) rfl
          have hsz278 := hch273.size
          replace hO28 := hO28.ch0 hch273
          replace hO15 := hO15.ch0 hch273
          replace hRd := hRd.ch0 hch273
          replace hD := hD.ch0 hch273
          replace hc := hc.step0 hch273
          have hub279 := hO277.lt
          have hdj280 : ∀ s ∈ obl (.slice (some ⟨g23, 0, none⟩) 9 9), s ∉ obl (.slice (some ⟨g272, 0, none⟩) 2 2) := fun s hs hs2 => by first | (have h1 := hub54 s hs; have h2 := hO277.off s hs2; omega) | (simp [obl, Value.ownBlock] at hs; done) | (simp [obl, Value.ownBlock] at hs2; done) | (have h1 := hub54 s hs; simp [obl, Value.ownBlock] at hs2; omega)
          have hdj281 : ∀ s ∈ obl (.slice Ao hs.length co), s ∉ obl (.slice (some ⟨g272, 0, none⟩) 2 2) := fun s hs hs2 => by first | (have h1 := hubOut s hs; have h2 := hO277.off s hs2; omega) | (simp [obl, Value.ownBlock] at hs; done) | (simp [obl, Value.ownBlock] at hs2; done) | (have h1 := hubOut s hs; simp [obl, Value.ownBlock] at hs2; omega)
          refine rw_cons (op_pv (w0 rfl) rfl rfl (pv_idx Try.underlying24 T48 rfl rfl rfl ((hO15.rs (fun _ => rfl)).some (k := (r263).toNat) (by omega)) (by omega) (by omega)) ?_)
          refine rw_cons (op_pv (w0 rfl) rfl rfl (pv_fld F48_1 rfl rfl) ?_)
          refine rw_cons (op_store_ownA (k := (r263).toNat) (off := 1) (⟨(el hs (r263).toNat).nm, (some ⟨g272, 0, none⟩), 2, 2, ([1, 1] : List Int)⟩) T25 hO15 (fun _ => rfl) (w0 rfl) rfl rfl rfl rfl rfl (one_all rfl) (by omega) (Nat.le_of_ble_eq_true rfl) rfl ?_)
          rintro w282 hO284 hch283
          have hsz285 := hch283.size
          replace hO28 := hO28.ch hch283 (dj_as hdj44)
          replace hRd := hRd.ch hch283 (hO15.off.le (by omega))
          replace hD := hD.ch hch283 (fun s hs => by first | exact .inr (.inl hs) | exact .inr (.inl (obl_any hs)) | exact .inr (.inr (Nat.le_trans (by omega) (hO15.off s hs))) | exact .inl (Nat.lt_of_lt_of_le (hubOut s hs) (by omega)))
          replace hO277 := hO277.ch hch283 (dj_sw hdj281)
          replace hc := hc.step hch283 (fun s hs => .inr (Nat.le_trans (by omega) (hO15.off s hs)))
          clear hO15; have hO15 := hO284; clear hO284
          refine rw_nil (hK262 _ _ ?_)
          refine hK246 _ _ ?_
          refine cw_seq fun K286 hK287 => ?_
          refine cw_region fun K288 hK289 => ?_
          refine rw_cons (op_pv (w0 rfl) rfl rfl (pv_move (v := (.slice Ao hs.length co)) rfl rfl) ?_)
          refine rw_cons (op_pv (w0 rfl) rfl rfl (pv_assign (v := (.slice Ao hs.length co)) rfl rfl) ?_)
          refine rw_nil (hK289 _ _ ?_)
          refine hK287 _ _ ?_
          refine cw_ret ?_
          refine fin1 rfl ?_
          have hsl : (hs.set (r263).toNat (⟨(el hs (r263).toNat).nm, (some ⟨g272, 0, none⟩), 2, 2, ([1, 1] : List Int)⟩)).length = hs.length := List.length_set ..
          exact ⟨_, _, (hs.set (r263).toNat (⟨(el hs (r263).toNat).nm, (some ⟨g272, 0, none⟩), 2, 2, ([1, 1] : List Int)⟩)), by rw [hsl]; rfl, by rw [hsl]; exact hO15.less (by omega), (hD.setO (r263).toNat _ hO277 (by omega) (by omega) (dj_sw hdj281)).bare (Nat.le_refl _), by omega, hZ.set _ (by have := hZ (r263).toNat (by omega); dsimp only; omega) (by dsimp only; omega), hRd.up (by omega), hc⟩
        · -- else
          replace h260 := of_decide_eq_false h260
          refine cw_skip ?_
          refine hK246 _ _ ?_
          refine cw_seq fun K290 hK291 => ?_
          refine cw_region fun K292 hK293 => ?_
          refine rw_cons (op_pv (w0 rfl) rfl rfl (pv_move (v := (.slice Ao hs.length co)) rfl rfl) ?_)
          refine rw_cons (op_pv (w0 rfl) rfl rfl (pv_assign (v := (.slice Ao hs.length co)) rfl rfl) ?_)
          refine rw_nil (hK293 _ _ ?_)
          refine hK291 _ _ ?_
          refine cw_ret ?_
          refine fin1 rfl ?_
          exact ⟨_, _, hs, rfl, hO15.less (by omega), hD.bare (by omega), by omega, hZ, hRd.up (by omega), hc⟩
      · -- no
        replace hb251 := of_decide_eq_false hb251
        refine rw_cons (op_pass (w1n1 rfl rfl rfl rfl) rfl rfl ?_)
        refine rw_cons (op_pass (w1n1 rfl rfl rfl rfl) rfl rfl ?_)
        refine rw_cons (op_pass (w1n1 rfl rfl rfl rfl) rfl rfl ?_)
        refine rw_cons (op_pv (w0 rfl) rfl rfl (pv_pickF (v := (.bool false)) rfl rfl rfl) ?_)
        refine rw_nil (hK250 _ _ ?_)
        refine hK248 _ _ ?_
        refine cw_cond rfl (fun h294 => ?_) (fun h294 => ?_)
        · -- then
          cases h294
        · -- else
          clear h294
          refine cw_skip ?_
          refine hK246 _ _ ?_
          refine cw_seq fun K295 hK296 => ?_
          refine cw_region fun K297 hK298 => ?_
          refine rw_cons (op_pv (w0 rfl) rfl rfl (pv_move (v := (.slice Ao hs.length co)) rfl rfl) ?_)
          refine rw_cons (op_pv (w0 rfl) rfl rfl (pv_assign (v := (.slice Ao hs.length co)) rfl rfl) ?_)
          refine rw_nil (hK298 _ _ ?_)
          refine hK296 _ _ ?_
          refine cw_ret ?_
          refine fin1 rfl ?_
          exact ⟨_, _, hs, rfl, hO15.less (by omega), hD.bare (by omega), by omega, hZ, hRd.up (by omega), hc⟩
end Go.Proofs.Ythgnlljpjpklpaa

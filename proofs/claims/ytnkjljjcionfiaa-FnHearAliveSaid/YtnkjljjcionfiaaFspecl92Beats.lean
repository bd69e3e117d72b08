/-
  The walk of spec.l92Beats, written by program: each line names the law of one operation. Conditions: those of the theorem.
-/
import Derived.Test.YtnkjljjcionfiaaProg
import Derived.Test.YtnkjljjcionfiaaBeats
import Derived.Test.YtnkjljjcionfiaaFspecl6Rdpick
import Derived.KernelRfl
namespace Go.Proofs.Ytnkjljjcionfiaa
open Go Go.RowKit
set_option linter.unusedVariables false
set_option linter.unusedSimpArgs false
namespace l92Beats_okF
theorem T3 : TI Try.prog 3 false (.int .i64 0) 1 8 := TI.mk' Try.underlying3 rfl (by kernel_rfl)
theorem T39 : TI Try.prog 39 true (.agg #[.int .i64 0, .int .i64 0]) 2 16 := TI.mk' Try.underlying39 rfl (by kernel_rfl)
theorem F39_1 : FldOK Try.prog 39 1 1 := ⟨_, _, 0, Try.underlying39, rfl, rfl, by kernel_rfl⟩
theorem C45 : Callable Try.prog 45 := ⟨_, Try.func45, by kernel_rfl, by kernel_rfl⟩
theorem B39_0I_1I (a0 : Int) (a1 : Int) (u : World) : (Instr.build 39 #[(0, .int .i64 a0), (1, .int .i64 a1)]).run Try.prog u = .ok (.agg #[.int .i64 a0, .int .i64 a1]) u := by kernel_rfl
end l92Beats_okF
open l92Beats_okF in
set_option maxHeartbeats 4000000 in
theorem l92Beats_ok (g : Nat) (N : Nat) (w : World) (hRd : Rd 65 w g N) (hN : N ≤ 900000) :
    Fn Try.prog 40 [(.pointer (some (⟨g, 0, none⟩)))] w fun v w' => ∃ A c xs, v = .slice A xs.length c ∧ Own encB 2 w' w.heap.size 39 (.slice A xs.length c) xs ∧ xs.length ≤ 8 ∧ Rd 65 w' g (N + 24) ∧ Ch [g] w w' := by
  have hg0 := hRd.lt
  refine fn_of (n := 52) Try.func40 rfl rfl rfl rfl ?_
  have hc : Ch [g] w w := Ch.refl _ _
  refine cw_seq fun K1 hK2 => ?_
  refine cw_region fun K3 hK4 => ?_
  refine rw_cons (op_pv (w0 rfl) rfl rfl (pv_assign (v := (.slice none 0 0)) rfl rfl) ?_)
  refine rw_nil (hK4 _ _ ?_)
  refine hK2 _ _ ?_
  refine cw_seq fun K5 hK6 => ?_
  refine cw_region fun K7 hK8 => ?_
  refine rw_cons (op_bslice [] Try.underlying23 T39 (w0 rfl) rfl rfl rfl rfl rfl (by simp [Value.cells]) (by decide) ?_)
  intro g10 w9 hg13 hg14 hK12 hch11
  have hO15 : Own encB 2 w9 w.heap.size 39 (.slice (some ⟨g10, 0, none⟩) 0 0) ([] : List Bt) := Blk.own (xs := ([] : List Bt)) hK12 (by omega) rfl (by decide) rfl
  have hsz16 := hch11.size
  replace hRd := hRd.ch0 hch11
  replace hc := hc.step0 hch11
  have hub17 := hO15.lt
  refine rw_cons (op_pv (w0 rfl) rfl rfl (pv_assign (v := (.slice (some ⟨g10, 0, none⟩) 0 0)) rfl rfl) ?_)
  refine rw_nil (hK8 _ _ ?_)
  refine hK6 _ _ ?_
  refine cw_seq fun K18 hK19 => ?_
  refine cw_region fun K20 hK21 => ?_
  refine rw_cons (op_pv (w0 rfl) rfl rfl (pv_move (v := (.pointer (some (⟨g, 0, none⟩)))) rfl rfl) ?_)
  refine rw_cons (op_call (w0 rfl) rfl rfl (rc_call C45 rfl rfl) (pick_ok _ _ _ _ hRd (by omega)) ?_)
  rintro _ w23 ⟨r22, rfl, hr24, hr25, hr26, hRd27, hch28⟩
  have hsz29 := hch28.size
  replace hO15 := hO15.ch hch28 (fun s hs => by first | (have := hO15.off s hs; simp; omega) | (have := hub17 s hs; simp; omega))
  replace hc := hc.step hch28 (fun s hs => .inl hs)
  clear hRd; have hRd := hRd27; clear hRd27
  refine rw_cons (op_pv (w0 rfl) rfl rfl (pv_assign (v := (.int .i64 r22)) rfl rfl) ?_)
  refine rw_nil (hK21 _ _ ?_)
  refine hK19 _ _ ?_
  refine cw_seq fun K30 hK31 => ?_
  refine cw_seq fun K32 hK33 => ?_
  refine cw_region fun K34 hK35 => ?_
  refine rw_cons (op_pv (w0 rfl) rfl rfl (pv_move (v := (.pointer (some (⟨g, 0, none⟩)))) rfl rfl) ?_)
  refine rw_cons (op_call (w0 rfl) rfl rfl (rc_call C45 rfl rfl) (pick_ok _ _ _ _ hRd (by omega)) ?_)
  rintro _ w37 ⟨r36, rfl, hr38, hr39, hr40, hRd41, hch42⟩
  have hsz43 := hch42.size
  replace hO15 := hO15.ch hch42 (fun s hs => by first | (have := hO15.off s hs; simp; omega) | (have := hub17 s hs; simp; omega))
  replace hc := hc.step hch42 (fun s hs => .inl hs)
  clear hRd; have hRd := hRd41; clear hRd41
  refine rw_cons (op_pv (w0 rfl) rfl rfl (pv_eql rfl rfl rfl) ?_)
  refine rw_nil (hK35 _ _ ?_)
  refine hK33 _ _ ?_
  refine cw_cond rfl (fun h44 => ?_) (fun h44 => ?_)
  · -- then
    replace h44 := of_decide_eq_true h44
    refine cw_region fun K45 hK46 => ?_
    refine rw_cons (op_pv (w0 rfl) rfl rfl (pv_assign (v := (.int .i64 8)) rfl rfl) ?_)
    refine rw_nil (hK46 _ _ ?_)
    refine hK31 _ _ ?_
    refine cw_seq fun K47 hK48 => ?_
    refine cw_region fun K49 hK50 => ?_
    refine rw_cons (op_pv (w0 rfl) rfl rfl (pv_move (v := (.pointer (some (⟨g, 0, none⟩)))) rfl rfl) ?_)
    refine rw_cons (op_call (w0 rfl) rfl rfl (rc_call C45 rfl rfl) (pick_ok _ _ _ _ hRd (by omega)) ?_)
    rintro _ w52 ⟨r51, rfl, hr53, hr54, hr55, hRd56, hch57⟩
    have hsz58 := hch57.size
    replace hO15 := hO15.ch hch57 (fun s hs => by first | (have := hO15.off s hs; simp; omega) | (have := hub17 s hs; simp; omega))
    replace hc := hc.step hch57 (fun s hs => .inl hs)
    clear hRd; have hRd := hRd56; clear hRd56
    refine rw_cons (op_pv (w0 rfl) rfl rfl (pv_add rfl rfl rfl (by omega) (by omega)) ?_)
    refine rw_cons (op_pv (w0 rfl) rfl rfl (pv_assign (v := (.int .i64 (1 + r51))) rfl rfl) ?_)
    refine rw_nil (hK50 _ _ ?_)
    refine hK48 _ _ ?_
    refine cw_seq fun K59 hK60 => ?_
    refine cw_seq fun K61 hK62 => ?_
    refine cw_region fun K63 hK64 => ?_
    refine rw_cons (op_pv (w0 rfl) rfl rfl (pv_assign (v := (.int .i64 0)) rfl rfl) ?_)
    refine rw_nil (hK64 _ _ ?_)
    refine hK62 _ _ ?_
    refine cw_block ?_
    refine cw_loop (σ := Nat × (Option Addr) × Nat × (List Bt) × Int) (fun ⟨k, A3, c3, xs, sv⟩ => [(3, (.slice A3 xs.length c3)), (5, (.int .i64 sv)), (6, (.int .i64 (k : Int))), (0, (.pointer (some (⟨g, 0, none⟩)))), (2, (.slice none 0 0)), (4, (.int .i64 8))]) (fun ⟨k, A3, c3, xs, sv⟩ W => (xs.length = k ∧ (k : Int) ≤ 8 ∧ 0 ≤ sv ∧ sv ≤ 3 + 3 * k) ∧ Own encB 2 W w.heap.size 39 (.slice A3 xs.length c3) xs ∧ Rd 65 W g (N + (3 + 2 * k)) ∧ Ch [g] w W) (fun ⟨k, A3, c3, xs, sv⟩ => (8 : Int).toNat - k) (0, (some ⟨g10, 0, none⟩), 0, ([] : List Bt), 1 + r51) ?_ ?_ ?_
    · exact ⟨rfl, rfl, rfl, rfl, rfl, rfl, trivial⟩
    · refine ⟨⟨rfl, by omega, by omega, by omega⟩, (hO15.less (by omega)), (hRd.up (by omega)), hc⟩
    · rintro ⟨k, A3, c3, xs, sv⟩ J69 w65 ⟨⟨hxl, hk, hs0, hs1⟩, hOut, hRd, hc⟩ K66 hK67
      have hsz71 := hc.size
      have hlt72 := hRd.lt
      have hubO := hOut.lt
      refine cw_seq fun K73 hK74 => ?_
      refine cw_seq fun K75 hK76 => ?_
      refine cw_region fun K77 hK78 => ?_
      refine rw_cons (op_pv (w0 rfl) rfl rfl (pv_move (v := (.int .i64 (k : Int))) rfl rfl) ?_)
      refine rw_cons (op_pv (w0 rfl) rfl rfl (pv_move (v := (.int .i64 8)) rfl rfl) ?_)
      refine rw_cons (op_pv (w0 rfl) rfl rfl (pv_lss rfl rfl rfl) ?_)
      refine rw_nil (hK78 _ _ ?_)
      refine hK76 _ _ ?_
      refine cw_cond rfl (fun h79 => ?_) (fun h79 => ?_)
      · -- then
        replace h79 := of_decide_eq_true h79
        refine cw_skip ?_
        refine hK74 _ _ ?_
        refine cw_seq fun K80 hK81 => ?_
        refine cw_block ?_
        refine cw_seq fun K82 hK83 => ?_
        refine cw_region fun K84 hK85 => ?_
        refine rw_cons (op_pv (w0 rfl) rfl rfl (pv_move (v := (.slice A3 xs.length c3)) rfl rfl) ?_)
        refine rw_cons (op_pv (w0 rfl) rfl rfl (pv_move (v := (.int .i64 sv)) rfl rfl) ?_)
        refine rw_cons (op_pv (w0 rfl) rfl rfl (pv_move (v := (.pointer (some (⟨g, 0, none⟩)))) rfl rfl) ?_)
        refine rw_cons (op_call (w0 rfl) rfl rfl (rc_call C45 rfl rfl) (pick_ok _ _ _ _ hRd (by omega)) ?_)
        rintro _ w87 ⟨r86, rfl, hr88, hr89, hr90, hRd91, hch92⟩
        have hsz93 := hch92.size
        replace hOut := hOut.ch hch92 (fun s hs => by first | (have := hOut.off s hs; simp; omega) | (have := hubO s hs; simp; omega))
        replace hc := hc.step hch92 (fun s hs => .inl hs)
        clear hRd; have hRd := hRd91; clear hRd91
        refine rw_cons (op_pv (w0 rfl) rfl rfl (pv_build rfl rfl (B39_0I_1I _ _)) ?_)
        refine rw_cons (op_bslice [(.agg #[(.int .i64 sv), (.int .i64 r86)])] Try.underlying23 T39 (w0 rfl) rfl rfl rfl rfl rfl (by simp [Value.cells]) (by decide) ?_)
        intro g95 w94 hg98 hg99 hK97 hch96
        have hO100 : Own encB 2 w94 w87.heap.size 39 (.slice (some ⟨g95, 0, none⟩) 1 1) ([⟨sv, r86⟩] : List Bt) := Blk.own (xs := ([⟨sv, r86⟩] : List Bt)) hK97 (by omega) rfl (by decide) rfl
        have hsz101 := hch96.size
        replace hOut := hOut.ch0 hch96
        replace hRd := hRd.ch0 hch96
        replace hc := hc.step0 hch96
        have hub102 := hO100.lt
        refine rw_cons (op_append Try.underlying23 T39 (fun _ => rfl) rfl (by decide) (fun _ => one_all rfl) (w0 rfl) rfl rfl rfl rfl rfl hOut (hO100.rs (fun _ => rfl)) (by unfold maxLen; first | omega | (simp; omega)) (by first | omega | (simp; omega)) (by omega) ?_)
        rintro v103 w104 hO105 hch106 hs107
        have hl108 : (xs ++ ([⟨sv, r86⟩] : List Bt)).length = xs.length + 1 := by first | (have hl0 := (hO100.rs (fun _ => rfl)).len; omega) | (have hl0 := (hO100.rs (fun _ => rfl)).len; simp only [List.length_append, List.length_cons, List.length_nil] at hl0 ⊢; omega) | simp | rfl
        clear hO100
        have hsz109 := hch106.size
        replace hRd := hRd.ch hch106 (hOut.off.le (by omega))
        replace hc := hc.step hch106 (fun s hs => .inr (hOut.off s hs))
        have hub110 := hO105.lt
        obtain ⟨A111, c112, hv113, hcap114, hcap115⟩ := hO105.form; subst hv113
        refine rw_cons (op_pv (w0 rfl) rfl rfl (pv_assign (v := (.slice A111 (xs ++ ([⟨sv, r86⟩] : List Bt)).length c112)) rfl rfl) ?_)
        refine rw_nil (hK85 _ _ ?_)
        refine hK83 _ _ ?_
        refine cw_region fun K116 hK117 => ?_
        refine rw_cons (op_pv (w0 rfl) rfl rfl (pv_move (v := (.int .i64 sv)) rfl rfl) ?_)
        refine rw_cons (op_pv (w0 rfl) rfl rfl (pv_add rfl rfl rfl (by omega) (by omega)) ?_)
        refine rw_cons (op_pv (w0 rfl) rfl rfl (pv_move (v := (.pointer (some (⟨g, 0, none⟩)))) rfl rfl) ?_)
        refine rw_cons (op_call (w0 rfl) rfl rfl (rc_call C45 rfl rfl) (pick_ok _ _ _ _ hRd (by omega)) ?_)
        rintro _ w119 ⟨r118, rfl, hr120, hr121, hr122, hRd123, hch124⟩
        have hsz125 := hch124.size
        replace hO105 := hO105.ch hch124 (fun s hs => by first | (have := hO105.off s hs; simp; omega) | (have := hub110 s hs; simp; omega))
        replace hc := hc.step hch124 (fun s hs => .inl hs)
        clear hRd; have hRd := hRd123; clear hRd123
        refine rw_cons (op_pv (w0 rfl) rfl rfl (pv_add rfl rfl rfl (by omega) (by omega)) ?_)
        refine rw_cons (op_pv (w0 rfl) rfl rfl (pv_assign (v := (.int .i64 ((sv + 1) + r118))) rfl rfl) ?_)
        refine rw_nil (hK117 _ _ ?_)
        refine hK81 _ _ ?_
        refine cw_region fun K126 hK127 => ?_
        refine rw_cons (op_pv (w0 rfl) rfl rfl (pv_move (v := (.int .i64 (k : Int))) rfl rfl) ?_)
        refine rw_cons (op_pv (w0 rfl) rfl rfl (pv_add rfl rfl rfl (by omega) (by omega)) ?_)
        refine rw_cons (op_pv (w0 rfl) rfl rfl (pv_assign (v := (.int .i64 ((k : Int) + 1))) rfl rfl) ?_)
        refine rw_nil (hK127 _ _ ?_)
        replace hRd := hRd.up (M := N + (3 + 2 * (k + 1))) (by omega)
        refine hK67 _ _ (k + 1, A111, c112, (xs ++ ([⟨sv, r86⟩] : List Bt)), (sv + 1) + r118) ⟨rfl, (iv (by omega)), (iv (by omega)), rfl, rfl, rfl, trivial⟩ ⟨?_, hO105, hRd, hc⟩ ?_
        · exact ⟨by omega, by omega, by omega, by omega⟩
        · show (8 : Int).toNat - (k + 1) < (8 : Int).toNat - k; omega
      · -- else
        replace h79 := of_decide_eq_false h79
        refine cw_exit ?_
        refine hK60 _ _ ?_
        refine cw_seq fun K128 hK129 => ?_
        refine cw_seq fun K130 hK131 => ?_
        refine cw_region fun K132 hK133 => ?_
        refine rw_cons (op_pv (w0 rfl) rfl rfl (pv_move (v := (.int .i64 8)) rfl rfl) ?_)
        refine rw_cons (op_pv (w0 rfl) rfl rfl (pv_gtr rfl rfl rfl) ?_)
        refine rw_cons (op_pv (w0 rfl) rfl rfl (pv_move (v := (.bool (decide (0 < 8)))) rfl rfl) ?_)
        refine rw_split 35 rfl (fun hb134 => ?_) (fun hb134 => ?_)
        · -- yes
          replace hb134 := of_decide_eq_true hb134
          refine rw_cons (op_pv (w1y rfl rfl rfl rfl) rfl rfl (pv_move (v := (.pointer (some (⟨g, 0, none⟩)))) rfl rfl) ?_)
          refine rw_cons (op_call (w1y rfl rfl rfl rfl) rfl rfl (rc_call C45 rfl rfl) (pick_ok _ _ _ _ hRd (by omega)) ?_)
          rintro _ w136 ⟨r135, rfl, hr137, hr138, hr139, hRd140, hch141⟩
          have hsz142 := hch141.size
          replace hOut := hOut.ch hch141 (fun s hs => by first | (have := hOut.off s hs; simp; omega) | (have := hubO s hs; simp; omega))
          replace hc := hc.step hch141 (fun s hs => .inl hs)
          clear hRd; have hRd := hRd140; clear hRd140
          refine rw_cons (op_pv (w1y rfl rfl rfl rfl) rfl rfl (pv_eql rfl rfl rfl) ?_)
          refine rw_cons (op_pv (w0 rfl) rfl rfl (pv_pickT (v := (.bool (decide ((r135 : Int) = 0)))) rfl rfl rfl) ?_)
          refine rw_nil (hK133 _ _ ?_)
          refine hK131 _ _ ?_
          refine cw_cond rfl (fun h143 => ?_) (fun h143 => ?_)
          · -- then
            replace h143 := of_decide_eq_true h143
            refine cw_region fun K144 hK145 => ?_
            refine rw_cons (op_pv (w0 rfl) rfl rfl (pv_move (v := (.slice A3 xs.length c3)) rfl rfl) ?_)
            refine rw_cons (op_pv (w0 rfl) rfl rfl (pv_move (v := (.pointer (some (⟨g, 0, none⟩)))) rfl rfl) ?_)
            refine rw_cons (op_pv (w0 rfl) rfl rfl (pv_move (v := (.int .i64 8)) rfl rfl) ?_)
            refine rw_cons (op_call (w0 rfl) rfl rfl (rc_call C45 rfl rfl) (pick_ok _ _ _ _ hRd (by omega)) ?_)
            rintro _ w147 ⟨r146, rfl, hr148, hr149, hr150, hRd151, hch152⟩
            have hsz153 := hch152.size
            replace hOut := hOut.ch hch152 (fun s hs => by first | (have := hOut.off s hs; simp; omega) | (have := hubO s hs; simp; omega))
            replace hc := hc.step hch152 (fun s hs => .inl hs)
            clear hRd; have hRd := hRd151; clear hRd151
            refine rw_cons (op_bslice [(.int .i64 (-1)), (.int .i64 9999), (.int .i64 10000)] Try.underlying34 T3 (w0 rfl) rfl rfl rfl rfl rfl (by simp [Value.cells]) (by decide) ?_)
            intro g155 w154 hg158 hg159 hK157 hch156
            have hO160 : Own encI 1 w154 w147.heap.size 3 (.slice (some ⟨g155, 0, none⟩) 3 3) ([-1, 9999, 10000] : List Int) := Blk.own (xs := ([-1, 9999, 10000] : List Int)) hK157 (by omega) rfl (by decide) rfl
            have hsz161 := hch156.size
            replace hOut := hOut.ch0 hch156
            replace hRd := hRd.ch0 hch156
            replace hc := hc.step0 hch156
            have hub162 := hO160.lt
            refine rw_cons (op_pv (w0 rfl) rfl rfl (pv_move (v := (.pointer (some (⟨g, 0, none⟩)))) rfl rfl) ?_)
            refine rw_cons (op_call (w0 rfl) rfl rfl (rc_call C45 rfl rfl) (pick_ok _ _ _ _ hRd (by omega)) ?_)
            rintro _ w164 ⟨r163, rfl, hr165, hr166, hr167, hRd168, hch169⟩
            have hsz170 := hch169.size
            replace hOut := hOut.ch hch169 (fun s hs => by first | (have := hOut.off s hs; simp; omega) | (have := hubO s hs; simp; omega))
            replace hO160 := hO160.ch hch169 (fun s hs => by first | (have := hO160.off s hs; simp; omega) | (have := hub162 s hs; simp; omega))
            replace hc := hc.step hch169 (fun s hs => .inl hs)
            clear hRd; have hRd := hRd168; clear hRd168
            refine rw_cons (op_pv (w0 rfl) rfl rfl (pv_idx Try.underlying34 T3 rfl rfl rfl ((hO160.rs (fun _ => rfl)).some (k := (r163).toNat) (by omega)) (by omega) (by omega)) ?_)
            refine rw_cons (op_lv (w0 rfl) rfl rfl (lv_load T3 rfl rfl ((hO160.rs (fun _ => rfl)).cell0 (k := (r163).toNat) (by omega) rfl)) ?_)
            refine rw_cons (op_pv (w0 rfl) rfl rfl (pv_idx Try.underlying23 T39 rfl rfl rfl ((hOut.rs (fun _ => rfl)).some (k := (r146).toNat) (by omega)) (by omega) (by omega)) ?_)
            refine rw_cons (op_pv (w0 rfl) rfl rfl (pv_fld F39_1 rfl rfl) ?_)
            refine rw_cons (op_store_ownA (k := (r146).toNat) (off := 1) (⟨(el xs (r146).toNat).s, (el ([-1, 9999, 10000] : List Int) (r163).toNat)⟩) T3 hOut (fun _ => rfl) (w0 rfl) rfl rfl rfl rfl rfl (one_all rfl) (by omega) (Nat.le_of_ble_eq_true rfl) rfl ?_)
            rintro w171 hO173 hch172
            have hsz174 := hch172.size
            replace hRd := hRd.ch hch172 (hOut.off.le (by omega))
            replace hO160 := hO160.ch hch172 (fun s hs hs2 => by first | (have h1 := hO160.off s hs; have h2 := hubO s hs2; omega) | (have h1 := hub162 s hs; have h2 := hOut.off s hs2; omega) | (have h2 := hubO s hs2; simp [obl, Value.ownBlock] at hs; omega) | (have h1 := hub162 s hs; simp [obl, Value.ownBlock] at hs2; omega))
            replace hc := hc.step hch172 (fun s hs => .inr (hOut.off s hs))
            clear hOut; have hOut := hO173; clear hO173
            refine rw_nil (hK145 _ _ ?_)
            refine hK129 _ _ ?_
            refine cw_seq fun K175 hK176 => ?_
            refine cw_region fun K177 hK178 => ?_
            refine rw_cons (op_pv (w0 rfl) rfl rfl (pv_move (v := (.slice A3 xs.length c3)) rfl rfl) ?_)
            refine rw_cons (op_pv (w0 rfl) rfl rfl (pv_assign (v := (.slice A3 xs.length c3)) rfl rfl) ?_)
            refine rw_nil (hK178 _ _ ?_)
            refine hK176 _ _ ?_
            refine cw_ret ?_
            refine fin1 rfl ?_
            exact ⟨_, _, _, sl_as hOut rfl, own_as (hOut.less (by omega)) rfl, by first | omega | (simp only [List.length_set]; omega), hRd.up (by omega), hc⟩
          · -- else
            replace h143 := of_decide_eq_false h143
            refine cw_skip ?_
            refine hK129 _ _ ?_
            refine cw_seq fun K179 hK180 => ?_
            refine cw_region fun K181 hK182 => ?_
            refine rw_cons (op_pv (w0 rfl) rfl rfl (pv_move (v := (.slice A3 xs.length c3)) rfl rfl) ?_)
            refine rw_cons (op_pv (w0 rfl) rfl rfl (pv_assign (v := (.slice A3 xs.length c3)) rfl rfl) ?_)
            refine rw_nil (hK182 _ _ ?_)
            refine hK180 _ _ ?_
            refine cw_ret ?_
            refine fin1 rfl ?_
            exact ⟨_, _, _, sl_as hOut rfl, own_as (hOut.less (by omega)) rfl, by first | omega | (simp only [List.length_set]; omega), hRd.up (by omega), hc⟩
        · -- no
          replace hb134 := of_decide_eq_false hb134
          refine rw_cons (op_pass (w1n1 rfl rfl rfl rfl) rfl rfl ?_)
          refine rw_cons (op_pass (w1n1 rfl rfl rfl rfl) rfl rfl ?_)
          refine rw_cons (op_pass (w1n1 rfl rfl rfl rfl) rfl rfl ?_)
          refine rw_cons (op_pv (w0 rfl) rfl rfl (pv_pickF (v := (.bool false)) rfl rfl rfl) ?_)
          refine rw_nil (hK133 _ _ ?_)
          refine hK131 _ _ ?_
          refine cw_cond rfl (fun h183 => ?_) (fun h183 => ?_)
          · -- then
            cases h183
          · -- else
            clear h183
            refine cw_skip ?_
            refine hK129 _ _ ?_
            refine cw_seq fun K184 hK185 => ?_
            refine cw_region fun K186 hK187 => ?_
            refine rw_cons (op_pv (w0 rfl) rfl rfl (pv_move (v := (.slice A3 xs.length c3)) rfl rfl) ?_)
            refine rw_cons (op_pv (w0 rfl) rfl rfl (pv_assign (v := (.slice A3 xs.length c3)) rfl rfl) ?_)
            refine rw_nil (hK187 _ _ ?_)
            refine hK185 _ _ ?_
            refine cw_ret ?_
            refine fin1 rfl ?_
            exact ⟨_, _, _, sl_as hOut rfl, own_as (hOut.less (by omega)) rfl, by first | omega | (simp only [List.length_set]; omega), hRd.up (by omega), hc⟩
  · -- else
    replace h44 := of_decide_eq_false h44
    refine cw_skip ?_
    refine hK31 _ _ ?_
    refine cw_seq fun K188 hK189 => ?_
    refine cw_region fun K190 hK191 => ?_
    refine rw_cons (op_pv (w0 rfl) rfl rfl (pv_move (v := (.pointer (some (⟨g, 0, none⟩)))) rfl rfl) ?_)
    refine rw_cons (op_call (w0 rfl) rfl rfl (rc_call C45 rfl rfl) (pick_ok _ _ _ _ hRd (by omega)) ?_)
    rintro _ w193 ⟨r192, rfl, hr194, hr195, hr196, hRd197, hch198⟩
    have hsz199 := hch198.size
    replace hO15 := hO15.ch hch198 (fun s hs => by first | (have := hO15.off s hs; simp; omega) | (have := hub17 s hs; simp; omega))
    replace hc := hc.step hch198 (fun s hs => .inl hs)
    clear hRd; have hRd := hRd197; clear hRd197
    refine rw_cons (op_pv (w0 rfl) rfl rfl (pv_add rfl rfl rfl (by omega) (by omega)) ?_)
    refine rw_cons (op_pv (w0 rfl) rfl rfl (pv_assign (v := (.int .i64 (1 + r192))) rfl rfl) ?_)
    refine rw_nil (hK191 _ _ ?_)
    refine hK189 _ _ ?_
    refine cw_seq fun K200 hK201 => ?_
    refine cw_seq fun K202 hK203 => ?_
    refine cw_region fun K204 hK205 => ?_
    refine rw_cons (op_pv (w0 rfl) rfl rfl (pv_assign (v := (.int .i64 0)) rfl rfl) ?_)
    refine rw_nil (hK205 _ _ ?_)
    refine hK203 _ _ ?_
    refine cw_block ?_
    refine cw_loop (σ := Nat × (Option Addr) × Nat × (List Bt) × Int) (fun ⟨k, A3, c3, xs, sv⟩ => [(3, (.slice A3 xs.length c3)), (5, (.int .i64 sv)), (6, (.int .i64 (k : Int))), (0, (.pointer (some (⟨g, 0, none⟩)))), (2, (.slice none 0 0)), (4, (.int .i64 r22))]) (fun ⟨k, A3, c3, xs, sv⟩ W => (xs.length = k ∧ (k : Int) ≤ r22 ∧ 0 ≤ sv ∧ sv ≤ 3 + 3 * k) ∧ Own encB 2 W w.heap.size 39 (.slice A3 xs.length c3) xs ∧ Rd 65 W g (N + (3 + 2 * k)) ∧ Ch [g] w W) (fun ⟨k, A3, c3, xs, sv⟩ => (r22 : Int).toNat - k) (0, (some ⟨g10, 0, none⟩), 0, ([] : List Bt), 1 + r192) ?_ ?_ ?_
    · exact ⟨rfl, rfl, rfl, rfl, rfl, rfl, trivial⟩
    · refine ⟨⟨rfl, by omega, by omega, by omega⟩, (hO15.less (by omega)), (hRd.up (by omega)), hc⟩
    · rintro ⟨k, A3, c3, xs, sv⟩ J210 w206 ⟨⟨hxl, hk, hs0, hs1⟩, hOut, hRd, hc⟩ K207 hK208
      have hsz212 := hc.size
      have hlt213 := hRd.lt
      have hubO := hOut.lt
      refine cw_seq fun K214 hK215 => ?_
      refine cw_seq fun K216 hK217 => ?_
      refine cw_region fun K218 hK219 => ?_
      refine rw_cons (op_pv (w0 rfl) rfl rfl (pv_move (v := (.int .i64 (k : Int))) rfl rfl) ?_)
      refine rw_cons (op_pv (w0 rfl) rfl rfl (pv_move (v := (.int .i64 r22)) rfl rfl) ?_)
      refine rw_cons (op_pv (w0 rfl) rfl rfl (pv_lss rfl rfl rfl) ?_)
      refine rw_nil (hK219 _ _ ?_)
      refine hK217 _ _ ?_
      refine cw_cond rfl (fun h220 => ?_) (fun h220 => ?_)
      · -- then
        replace h220 := of_decide_eq_true h220
        refine cw_skip ?_
        refine hK215 _ _ ?_
        refine cw_seq fun K221 hK222 => ?_
        refine cw_block ?_
        refine cw_seq fun K223 hK224 => ?_
        refine cw_region fun K225 hK226 => ?_
        refine rw_cons (op_pv (w0 rfl) rfl rfl (pv_move (v := (.slice A3 xs.length c3)) rfl rfl) ?_)
        refine rw_cons (op_pv (w0 rfl) rfl rfl (pv_move (v := (.int .i64 sv)) rfl rfl) ?_)
        refine rw_cons (op_pv (w0 rfl) rfl rfl (pv_move (v := (.pointer (some (⟨g, 0, none⟩)))) rfl rfl) ?_)
        refine rw_cons (op_call (w0 rfl) rfl rfl (rc_call C45 rfl rfl) (pick_ok _ _ _ _ hRd (by omega)) ?_)
        rintro _ w228 ⟨r227, rfl, hr229, hr230, hr231, hRd232, hch233⟩
        have hsz234 := hch233.size
        replace hOut := hOut.ch hch233 (fun s hs => by first | (have := hOut.off s hs; simp; omega) | (have := hubO s hs; simp; omega))
        replace hc := hc.step hch233 (fun s hs => .inl hs)
        clear hRd; have hRd := hRd232; clear hRd232
        refine rw_cons (op_pv (w0 rfl) rfl rfl (pv_build rfl rfl (B39_0I_1I _ _)) ?_)
        refine rw_cons (op_bslice [(.agg #[(.int .i64 sv), (.int .i64 r227)])] Try.underlying23 T39 (w0 rfl) rfl rfl rfl rfl rfl (by simp [Value.cells]) (by decide) ?_)
        intro g236 w235 hg239 hg240 hK238 hch237
        have hO241 : Own encB 2 w235 w228.heap.size 39 (.slice (some ⟨g236, 0, none⟩) 1 1) ([⟨sv, r227⟩] : List Bt) := Blk.own (xs := ([⟨sv, r227⟩] : List Bt)) hK238 (by omega) rfl (by decide) rfl
        have hsz242 := hch237.size
        replace hOut := hOut.ch0 hch237
        replace hRd := hRd.ch0 hch237
        replace hc := hc.step0 hch237
        have hub243 := hO241.lt
        refine rw_cons (op_append Try.underlying23 T39 (fun _ => rfl) rfl (by decide) (fun _ => one_all rfl) (w0 rfl) rfl rfl rfl rfl rfl hOut (hO241.rs (fun _ => rfl)) (by unfold maxLen; first | omega | (simp; omega)) (by first | omega | (simp; omega)) (by omega) ?_)
        rintro v244 w245 hO246 hch247 hs248
        have hl249 : (xs ++ ([⟨sv, r227⟩] : List Bt)).length = xs.length + 1 := by first | (have hl0 := (hO241.rs (fun _ => rfl)).len; omega) | (have hl0 := (hO241.rs (fun _ => rfl)).len; simp only [List.length_append, List.length_cons, List.length_nil] at hl0 ⊢; omega) | simp | rfl
        clear hO241
        have hsz250 := hch247.size
        replace hRd := hRd.ch hch247 (hOut.off.le (by omega))
        replace hc := hc.step hch247 (fun s hs => .inr (hOut.off s hs))
        have hub251 := hO246.lt
        obtain ⟨A252, c253, hv254, hcap255, hcap256⟩ := hO246.form; subst hv254
        refine rw_cons (op_pv (w0 rfl) rfl rfl (pv_assign (v := (.slice A252 (xs ++ ([⟨sv, r227⟩] : List Bt)).length c253)) rfl rfl) ?_)
        refine rw_nil (hK226 _ _ ?_)
        refine hK224 _ _ ?_
        refine cw_region fun K257 hK258 => ?_
        refine rw_cons (op_pv (w0 rfl) rfl rfl (pv_move (v := (.int .i64 sv)) rfl rfl) ?_)
        refine rw_cons (op_pv (w0 rfl) rfl rfl (pv_add rfl rfl rfl (by omega) (by omega)) ?_)
        refine rw_cons (op_pv (w0 rfl) rfl rfl (pv_move (v := (.pointer (some (⟨g, 0, none⟩)))) rfl rfl) ?_)
        refine rw_cons (op_call (w0 rfl) rfl rfl (rc_call C45 rfl rfl) (pick_ok _ _ _ _ hRd (by omega)) ?_)
        rintro _ w260 ⟨r259, rfl, hr261, hr262, hr263, hRd264, hch265⟩
        have hsz266 := hch265.size
        replace hO246 := hO246.ch hch265 (fun s hs => by first | (have := hO246.off s hs; simp; omega) | (have := hub251 s hs; simp; omega))
        replace hc := hc.step hch265 (fun s hs => .inl hs)
        clear hRd; have hRd := hRd264; clear hRd264
        refine rw_cons (op_pv (w0 rfl) rfl rfl (pv_add rfl rfl rfl (by omega) (by omega)) ?_)
        refine rw_cons (op_pv (w0 rfl) rfl rfl (pv_assign (v := (.int .i64 ((sv + 1) + r259))) rfl rfl) ?_)
        refine rw_nil (hK258 _ _ ?_)
        refine hK222 _ _ ?_
        refine cw_region fun K267 hK268 => ?_
        refine rw_cons (op_pv (w0 rfl) rfl rfl (pv_move (v := (.int .i64 (k : Int))) rfl rfl) ?_)
        refine rw_cons (op_pv (w0 rfl) rfl rfl (pv_add rfl rfl rfl (by omega) (by omega)) ?_)
        refine rw_cons (op_pv (w0 rfl) rfl rfl (pv_assign (v := (.int .i64 ((k : Int) + 1))) rfl rfl) ?_)
        refine rw_nil (hK268 _ _ ?_)
        replace hRd := hRd.up (M := N + (3 + 2 * (k + 1))) (by omega)
        refine hK208 _ _ (k + 1, A252, c253, (xs ++ ([⟨sv, r227⟩] : List Bt)), (sv + 1) + r259) ⟨rfl, (iv (by omega)), (iv (by omega)), rfl, rfl, rfl, trivial⟩ ⟨?_, hO246, hRd, hc⟩ ?_
        · exact ⟨by omega, by omega, by omega, by omega⟩
        · show (r22 : Int).toNat - (k + 1) < (r22 : Int).toNat - k; omega
      · -- else
        replace h220 := of_decide_eq_false h220
        refine cw_exit ?_
        refine hK201 _ _ ?_
        refine cw_seq fun K269 hK270 => ?_
        refine cw_seq fun K271 hK272 => ?_
        refine cw_region fun K273 hK274 => ?_
        refine rw_cons (op_pv (w0 rfl) rfl rfl (pv_move (v := (.int .i64 r22)) rfl rfl) ?_)
        refine rw_cons (op_pv (w0 rfl) rfl rfl (pv_gtr rfl rfl rfl) ?_)
        refine rw_cons (op_pv (w0 rfl) rfl rfl (pv_move (v := (.bool (decide (0 < r22)))) rfl rfl) ?_)
        refine rw_split 35 rfl (fun hb275 => ?_) (fun hb275 => ?_)
        · -- yes
          replace hb275 := of_decide_eq_true hb275
          refine rw_cons (op_pv (w1y rfl rfl rfl rfl) rfl rfl (pv_move (v := (.pointer (some (⟨g, 0, none⟩)))) rfl rfl) ?_)
          refine rw_cons (op_call (w1y rfl rfl rfl rfl) rfl rfl (rc_call C45 rfl rfl) (pick_ok _ _ _ _ hRd (by omega)) ?_)
          rintro _ w277 ⟨r276, rfl, hr278, hr279, hr280, hRd281, hch282⟩
          have hsz283 := hch282.size
          replace hOut := hOut.ch hch282 (fun s hs => by first | (have := hOut.off s hs; simp; omega) | (have := hubO s hs; simp; omega))
          replace hc := hc.step hch282 (fun s hs => .inl hs)
          clear hRd; have hRd := hRd281; clear hRd281
          refine rw_cons (op_pv (w1y rfl rfl rfl rfl) rfl rfl (pv_eql rfl rfl rfl) ?_)
          refine rw_cons (op_pv (w0 rfl) rfl rfl (pv_pickT (v := (.bool (decide ((r276 : Int) = 0)))) rfl rfl rfl) ?_)
          refine rw_nil (hK274 _ _ ?_)
          refine hK272 _ _ ?_
          refine cw_cond rfl (fun h284 => ?_) (fun h284 => ?_)
          · -- then
            replace h284 := of_decide_eq_true h284
            refine cw_region fun K285 hK286 => ?_
            refine rw_cons (op_pv (w0 rfl) rfl rfl (pv_move (v := (.slice A3 xs.length c3)) rfl rfl) ?_)
            refine rw_cons (op_pv (w0 rfl) rfl rfl (pv_move (v := (.pointer (some (⟨g, 0, none⟩)))) rfl rfl) ?_)
            refine rw_cons (op_pv (w0 rfl) rfl rfl (pv_move (v := (.int .i64 r22)) rfl rfl) ?_)
            refine rw_cons (op_call (w0 rfl) rfl rfl (rc_call C45 rfl rfl) (pick_ok _ _ _ _ hRd (by omega)) ?_)
            rintro _ w288 ⟨r287, rfl, hr289, hr290, hr291, hRd292, hch293⟩
            have hsz294 := hch293.size
            replace hOut := hOut.ch hch293 (fun s hs => by first | (have := hOut.off s hs; simp; omega) | (have := hubO s hs; simp; omega))
            replace hc := hc.step hch293 (fun s hs => .inl hs)
            clear hRd; have hRd := hRd292; clear hRd292
            refine rw_cons (op_bslice [(.int .i64 (-1)), (.int .i64 9999), (.int .i64 10000)] Try.underlying34 T3 (w0 rfl) rfl rfl rfl rfl rfl (by simp [Value.cells]) (by decide) ?_)
            intro g296 w295 hg299 hg300 hK298 hch297
            have hO301 : Own encI 1 w295 w288.heap.size 3 (.slice (some ⟨g296, 0, none⟩) 3 3) ([-1, 9999, 10000] : List Int) := Blk.own (xs := ([-1, 9999, 10000] : List Int)) hK298 (by omega) rfl (by decide) rfl
            have hsz302 := hch297.size
            replace hOut := hOut.ch0 hch297
            replace hRd := hRd.ch0 hch297
            replace hc := hc.step0 hch297
            have hub303 := hO301.lt
            refine rw_cons (op_pv (w0 rfl) rfl rfl (pv_move (v := (.pointer (some (⟨g, 0, none⟩)))) rfl rfl) ?_)
            refine rw_cons (op_call (w0 rfl) rfl rfl (rc_call C45 rfl rfl) (pick_ok _ _ _ _ hRd (by omega)) ?_)
            rintro _ w305 ⟨r304, rfl, hr306, hr307, hr308, hRd309, hch310⟩
            have hsz311 := hch310.size
            replace hOut := hOut.ch hch310 (fun s hs => by first | (have := hOut.off s hs; simp; omega) | (have := hubO s hs; simp; omega))
            replace hO301 := hO301.ch hch310 (fun s hs => by first | (have := hO301.off s hs; simp; omega) | (have := hub303 s hs; simp; omega))
            replace hc := hc.step hch310 (fun s hs => .inl hs)
            clear hRd; have hRd := hRd309; clear hRd309
            refine rw_cons (op_pv (w0 rfl) rfl rfl (pv_idx Try.underlying34 T3 rfl rfl rfl ((hO301.rs (fun _ => rfl)).some (k := (r304).toNat) (by omega)) (by omega) (by omega)) ?_)
            refine rw_cons (op_lv (w0 rfl) rfl rfl (lv_load T3 rfl rfl ((hO301.rs (fun _ => rfl)).cell0 (k := (r304).toNat) (by omega) rfl)) ?_)
            refine rw_cons (op_pv (w0 rfl) rfl rfl (pv_idx Try.underlying23 T39 rfl rfl rfl ((hOut.rs (fun _ => rfl)).some (k := (r287).toNat) (by omega)) (by omega) (by omega)) ?_)
            refine rw_cons (op_pv (w0 rfl) rfl rfl (pv_fld F39_1 rfl rfl) ?_)
            refine rw_cons (op_store_ownA (k := (r287).toNat) (off := 1) (⟨(el xs (r287).toNat).s, (el ([-1, 9999, 10000] : List Int) (r304).toNat)⟩) T3 hOut (fun _ => rfl) (w0 rfl) rfl rfl rfl rfl rfl (one_all rfl) (by omega) (Nat.le_of_ble_eq_true rfl) rfl ?_)
            rintro w312 hO314 hch313
            have hsz315 := hch313.size
            replace hRd := hRd.ch hch313 (hOut.off.le (by omega))
            replace hO301 := hO301.ch hch313 (fun s hs hs2 => by first | (have h1 := hO301.off s hs; have h2 := hubO s hs2; omega) | (have h1 := hub303 s hs; have h2 := hOut.off s hs2; omega) | (have h2 := hubO s hs2; simp [obl, Value.ownBlock] at hs; omega) | (have h1 := hub303 s hs; simp [obl, Value.ownBlock] at hs2; omega))
            replace hc := hc.step hch313 (fun s hs => .inr (hOut.off s hs))
            clear hOut; have hOut := hO314; clear hO314
            refine rw_nil (hK286 _ _ ?_)
            refine hK270 _ _ ?_
            refine cw_seq fun K316 hK317 => ?_
            refine cw_region fun K318 hK319 => ?_
            refine rw_cons (op_pv (w0 rfl) rfl rfl (pv_move (v := (.slice A3 xs.length c3)) rfl rfl) ?_)
            refine rw_cons (op_pv (w0 rfl) rfl rfl (pv_assign (v := (.slice A3 xs.length c3)) rfl rfl) ?_)
            refine rw_nil (hK319 _ _ ?_)
            refine hK317 _ _ ?_
            refine cw_ret ?_
            refine fin1 rfl ?_
            exact ⟨_, _, _, sl_as hOut rfl, own_as (hOut.less (by omega)) rfl, by first | omega | (simp only [List.length_set]; omega), hRd.up (by omega), hc⟩
          · -- else
            replace h284 := of_decide_eq_false h284
            refine cw_skip ?_
            refine hK270 _ _ ?_
            refine cw_seq fun K320 hK321 => ?_
            refine cw_region fun K322 hK323 => ?_
            refine rw_cons (op_pv (w0 rfl) rfl rfl (pv_move (v := (.slice A3 xs.length c3)) rfl rfl) ?_)
            refine rw_cons (op_pv (w0 rfl) rfl rfl (pv_assign (v := (.slice A3 xs.length c3)) rfl rfl) ?_)
            refine rw_nil (hK323 _ _ ?_)
            refine hK321 _ _ ?_
            refine cw_ret ?_
            refine fin1 rfl ?_
            exact ⟨_, _, _, sl_as hOut rfl, own_as (hOut.less (by omega)) rfl, by first | omega | (simp only [List.length_set]; omega), hRd.up (by omega), hc⟩
        · -- no
          replace hb275 := of_decide_eq_false hb275
          refine rw_cons (op_pass (w1n1 rfl rfl rfl rfl) rfl rfl ?_)
          refine rw_cons (op_pass (w1n1 rfl rfl rfl rfl) rfl rfl ?_)
          refine rw_cons (op_pass (w1n1 rfl rfl rfl rfl) rfl rfl ?_)
          refine rw_cons (op_pv (w0 rfl) rfl rfl (pv_pickF (v := (.bool false)) rfl rfl rfl) ?_)
          refine rw_nil (hK274 _ _ ?_)
          refine hK272 _ _ ?_
          refine cw_cond rfl (fun h324 => ?_) (fun h324 => ?_)
          · -- then
            cases h324
          · -- else
            clear h324
            refine cw_skip ?_
            refine hK270 _ _ ?_
            refine cw_seq fun K325 hK326 => ?_
            refine cw_region fun K327 hK328 => ?_
            refine rw_cons (op_pv (w0 rfl) rfl rfl (pv_move (v := (.slice A3 xs.length c3)) rfl rfl) ?_)
            refine rw_cons (op_pv (w0 rfl) rfl rfl (pv_assign (v := (.slice A3 xs.length c3)) rfl rfl) ?_)
            refine rw_nil (hK328 _ _ ?_)
            refine hK326 _ _ ?_
            refine cw_ret ?_
            refine fin1 rfl ?_
            exact ⟨_, _, _, sl_as hOut rfl, own_as (hOut.less (by omega)) rfl, by first | omega | (simp only [List.length_set]; omega), hRd.up (by omega), hc⟩
end Go.Proofs.Ytnkjljjcionfiaa

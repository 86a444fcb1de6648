/- Part 4 of the proof of FnExactStoreDo: words, contracts of callees, plain lemmas. -/
import Derived.Test.YtolmblfffnnabaaZStoreDo3
namespace Go.Proofs.Ytolmblfffnnabaa.P
open Go.RowKit Go.Proofs.YtolmblfffnnabaaW.PrintWords Go.Proofs.YtolmblfffnnabaaW.PrintLast Go.Proofs.YtolmblfffnnabaaW.PrintMore
set_option linter.unusedVariables false
set_option linter.unusedSimpArgs false
set_option maxHeartbeats 8000000 in
set_option maxRecDepth 100000 in
theorem spec_l5Copy.calls (A0_0 : Option Addr) (c0_0 : Nat) (l0_0 : List ByteArray) (A0_1 : Option Addr) (c0_1 : Nat) (l0_1 : List ByteArray) (A0_2 : Option Addr) (c0_2 : Nat) (l0_2 : List Int) (A0_3 : Option Addr) (c0_3 : Nat) (l0_3 : List Int) (A0_4 : Option Addr) (c0_4 : Nat) (l0_4 : List Int) (r1 : List ByteArray) (r2 : List ByteArray) (r3 : List Int) (r4 : List Int) (r5 : List Int) (w : World) (hr0_0 : Kd.C Kd.string w A0_0 l0_0.length l0_0) (hc0_0 : l0_0.length ≤ c0_0) (hr0_1 : Kd.C Kd.string w A0_1 l0_1.length l0_1) (hc0_1 : l0_1.length ≤ c0_1) (hr0_2 : Kd.C (Kd.int .i64) w A0_2 l0_2.length l0_2) (hc0_2 : l0_2.length ≤ c0_2) (hr0_3 : Kd.C (Kd.int .i64) w A0_3 l0_3.length l0_3) (hc0_3 : l0_3.length ≤ c0_3) (hr0_4 : Kd.C (Kd.int .i64) w A0_4 l0_4.length l0_4) (hc0_4 : l0_4.length ≤ c0_4) (h : spec_l5Copy.f l0_0 l0_1 l0_2 l0_3 l0_4 = some (r1, r2, r3, r4, r5)) :
    Calls Try.prog 62 #[.agg #[.slice A0_0 l0_0.length c0_0, .slice A0_1 l0_1.length c0_1, .slice A0_2 l0_2.length c0_2, .slice A0_3 l0_3.length c0_3, .slice A0_4 l0_4.length c0_4]] w fun e w' => ∃ v0_ v1_ v2_ v3_ v4_ : Value, e = .returned (.agg #[v0_, v1_, v2_, v3_, v4_]) ∧ Kd.R Kd.string 9 w' w.heap.size (fun k_ => some k_ ≠ (v1_ : Value).ownBlock) v0_ r1 ∧ Kd.R Kd.string 9 w' w.heap.size (fun k_ => some k_ ≠ (v0_ : Value).ownBlock) v1_ r2 ∧ Kd.R (Kd.int .i64) 3 w' w.heap.size (fun k_ => some k_ ≠ (v3_ : Value).ownBlock ∧ some k_ ≠ (v4_ : Value).ownBlock) v2_ r3 ∧ Kd.R (Kd.int .i64) 3 w' w.heap.size (fun k_ => some k_ ≠ (v2_ : Value).ownBlock ∧ some k_ ≠ (v4_ : Value).ownBlock) v3_ r4 ∧ Kd.R (Kd.int .i64) 3 w' w.heap.size (fun k_ => some k_ ≠ (v2_ : Value).ownBlock ∧ some k_ ≠ (v3_ : Value).ownBlock) v4_ r5 ∧ Below w.heap.size w w' := by
  unfold spec_l5Copy.f at h
  simp only [Option.bind_some, List.length_nil, Nat.zero_add, List.nil_append] at h
  by_cases hl0 : l0_0.length < 8796093022208
  case neg => rw [if_neg hl0] at h; cases h
  rw [if_pos hl0] at h
  have HL0 := Aside0.mk hl0
  clear hl0
  by_cases hl1 : l0_1.length < 8796093022208
  case neg => rw [if_neg hl1] at h; cases h
  rw [if_pos hl1] at h
  have HL1 := Aside0.mk hl1
  clear hl1
  by_cases hl2 : l0_2.length < 17592186044416
  case neg => rw [if_neg hl2] at h; cases h
  rw [if_pos hl2] at h
  have HL2 := Aside0.mk hl2
  clear hl2
  by_cases hl3 : l0_3.length < 17592186044416
  case neg => rw [if_neg hl3] at h; cases h
  rw [if_pos hl3] at h
  have HL3 := Aside0.mk hl3
  clear hl3
  by_cases hl4 : l0_4.length < 17592186044416
  case neg => rw [if_neg hl4] at h; cases h
  rw [if_pos hl4] at h
  have HL4 := Aside0.mk hl4
  clear hl4
  simp only [Option.some.injEq, Prod.mk.injEq] at h
  obtain ⟨rfl, rfl, rfl, rfl, rfl⟩ := h
  have HR0 := Aside0.mk hr0_0
  clear hr0_0 hc0_0
  have HR1 := Aside0.mk hr0_1
  clear hr0_1 hc0_1
  have HR2 := Aside0.mk hr0_2
  clear hr0_2 hc0_2
  have HR3 := Aside0.mk hr0_3
  clear hr0_3 hc0_3
  have HR4 := Aside0.mk hr0_4
  clear hr0_4 hc0_4
  have hu := Try.underlying25
  go_enter Try.func62, Try.ntmps62
  go_wp2_with (first | ((with_reducible refine gate_dst (N := 1) rfl ?_); refine ev_box ?hg (N := 1) ?hd (cs := #[.slice A0_0 l0_0.length c0_0, .slice A0_1 l0_1.length c0_1, .slice A0_2 l0_2.length c0_2, .slice A0_3 l0_3.length c0_3, .slice A0_4 l0_4.length c0_4]) (t := 25) ?hr ?_; (case hd => rfl); (case hg => rfl); (case hr => first | (go_simp; done) | (go_simp; rfl)); intro g1 W0 HG1 BK1 HB1) | ((with_reducible refine gate_dst (N := 2) rfl ?_); refine ev_box ?hg (N := 2) ?hd (cs := #[.slice none 0 0, .slice none 0 0, .slice none 0 0, .slice none 0 0, .slice none 0 0]) (t := 25) ?hr ?_; (case hd => rfl); (case hg => rfl); (case hr => first | (go_simp; done) | (go_simp; rfl)); intro g2 W1 HG2 BK2 HB2))
  have HW0 := Aside0.mk HB1.out.size
  have HG12 : Aside0 (g1 < g2) := ⟨by have h1 := BK1.out.lt; have h2 := HG2.out; omega⟩
  have HBw := Aside0.mk (below_step HB1.out HB2.out)
  have BKa := Aside0.mk (Bk.below BK1.out HB2.out)
  clear BK1 HB1
  refine start_ (n := 22) (S := fun w' => True) (ds := []) #[false, false, false, false, false, false, false, false, false, false, false, false, false, false, false, false, false, false, false, false, false, false] (by kernel_rfl) rfl rfl trivial (fun hHeld => ?_)
  clear hHeld
  refine with_tabW spec_l5Copy.tab1 spec_l5Copy.bits1 (fun HT_ HW_ => ?_)
  have BK2' : Aside0 (Bk W1.drew g2 #[.slice none 0 0, .slice none 0 0, .slice none 0 0, .slice none 0 0, .slice none 0 0] 25) := ⟨BK2.out⟩
  have HBd := Aside0.mk (below_drew1 HBw.out)
  have BKa' : Aside0 (Bk W1.drew g1 #[.slice A0_0 l0_0.length c0_0, .slice A0_1 l0_1.length c0_1, .slice A0_2 l0_2.length c0_2, .slice A0_3 l0_3.length c0_3, .slice A0_4 l0_4.length c0_4] 25) := ⟨BKa.out⟩
  have HGE : Aside0 (w.heap.size ≤ g2) := ⟨by have h1 := HG2.out; have h2 := HW0.out; omega⟩
  generalize W1.drew = w4 at BK2' HBd BKa' ⊢
  clear HBw BK2 HB2 BKa
  refine inv_at [0, 1, 2, 3, 4, 5, 6, 7, 8, 9, 10, 11, 12, 13, 14, 15, 16, 17, 18, 19, 20, 21] (fun a0_ b a w' => ∃ (u0 : Value) (u1 : Value) (u2 : Value) (u3 : Value) (u4 : Value) (v0 : Value) (v1 : Value) (v2 : Value) (v3 : Value) (v4 : Value) (m : Value) (D : Nat → Nat → Prop), a = putSel a0_ b [(0, 3, u0), (1, 4, .pointer (some ⟨g1, 0, none⟩)), (2, 5, .slice A0_0 l0_0.length c0_0), (3, 6, v0), (4, 7, u1), (5, 8, .pointer (some ⟨g1, 1, none⟩)), (6, 9, .slice A0_1 l0_1.length c0_1), (7, 10, v1), (8, 11, u2), (9, 12, .pointer (some ⟨g1, 2, none⟩)), (10, 13, .slice A0_2 l0_2.length c0_2), (11, 14, v2), (12, 15, u3), (13, 16, .pointer (some ⟨g1, 3, none⟩)), (14, 17, .slice A0_3 l0_3.length c0_3), (15, 18, v3), (16, 19, u4), (17, 20, .pointer (some ⟨g1, 4, none⟩)), (18, 21, .slice A0_4 l0_4.length c0_4), (19, 22, v4), (20, 23, m)] ∧ Below w.heap.size w w' ∧ Bk w' g1 #[.slice A0_0 l0_0.length c0_0, .slice A0_1 l0_1.length c0_1, .slice A0_2 l0_2.length c0_2, .slice A0_3 l0_3.length c0_3, .slice A0_4 l0_4.length c0_4] 25 ∧ (b 21 = false → Bk w' g2 #[.slice none 0 0, .slice none 0 0, .slice none 0 0, .slice none 0 0, .slice none 0 0] 25) ∧ (b 21 = true → Bk w' g2 #[v0, v1, v2, v3, v4] 25) ∧ (b 20 = true → m = .agg #[v0, v1, v2, v3, v4]) ∧ (∀ i j k, D i k → D j k → i = j) ∧ (∀ i k, D i k → k < w'.heap.size) ∧ (b 0 = true → b 3 = false → Kd.R Kd.string 9 w' w.heap.size (D 0) u0 ([] : List ByteArray)) ∧ (b 4 = true → b 7 = false → Kd.R Kd.string 9 w' w.heap.size (D 1) u1 ([] : List ByteArray)) ∧ (b 8 = true → b 11 = false → Kd.R (Kd.int .i64) 3 w' w.heap.size (D 2) u2 ([] : List Int)) ∧ (b 12 = true → b 15 = false → Kd.R (Kd.int .i64) 3 w' w.heap.size (D 3) u3 ([] : List Int)) ∧ (b 16 = true → b 19 = false → Kd.R (Kd.int .i64) 3 w' w.heap.size (D 4) u4 ([] : List Int)) ∧ (b 3 = true → Kd.R Kd.string 9 w' w.heap.size (D 0) v0 l0_0) ∧ (b 7 = true → Kd.R Kd.string 9 w' w.heap.size (D 1) v1 l0_1) ∧ (b 11 = true → Kd.R (Kd.int .i64) 3 w' w.heap.size (D 2) v2 l0_2) ∧ (b 15 = true → Kd.R (Kd.int .i64) 3 w' w.heap.size (D 3) v3 l0_3) ∧ (b 19 = true → Kd.R (Kd.int .i64) 3 w' w.heap.size (D 4) v4 l0_4)) HT_.out HW_.out (by kernel_rfl) (by kernel_rfl) ?_ ?_ ?_
  · exact ⟨.bool false, .bool false, .bool false, .bool false, .bool false, .bool false, .bool false, .bool false, .bool false, .bool false, .bool false, fun _ _ => False, by simp only [putSel, Bool.false_eq_true, if_false], HBd.out, BKa'.out, fun _ => BK2'.out, fun h_ => absurd h_ (by decide), fun h_ => absurd h_ (by decide), fun _ _ _ h_ => h_.elim, fun _ _ h_ => h_.elim, fun h_ _ => absurd h_ (by decide), fun h_ _ => absurd h_ (by decide), fun h_ _ => absurd h_ (by decide), fun h_ _ => absurd h_ (by decide), fun h_ _ => absurd h_ (by decide), fun h_ => absurd h_ (by decide), fun h_ => absurd h_ (by decide), fun h_ => absurd h_ (by decide), fun h_ => absurd h_ (by decide), fun h_ => absurd h_ (by decide)⟩
  · clear BK2' HBd BKa'
    refine steps_cons ?_ ?_
    · rintro b a w' ⟨u0, u1, u2, u3, u4, v0, v1, v2, v3, v4, m, D, ha, HB, QA, Qz, Qe, Qm, QD, QL, QU0, QU1, QU2, QU3, QU4, QV0, QV1, QV2, QV3, QV4⟩ hb_ hon hoff
      refine ⟨_, rfl, fun K hK => ?_⟩
      refine Kd.R_lit_step Kd.string (w0 := w') w'.heap.size 9 (by rfl) (N := 3) rfl (xs := ([] : List ByteArray)) (inner := []) (ok := fun k => k = w'.heap.size ∨ w'.heap.size ≤ k) (okp := fun _ => False) (by first | (go_simp; done) | (go_simp; rfl)) ⟨rfl, fun j p hj => by simp at hj⟩ (fun _ hk => hk.elim) (.inl rfl) (Below.refl _ _) (Nat.le_refl _) (by simp) ?_
      intro x w5 ho hb5 hg5 hn5
      have hfit := HB.size
      obtain ⟨D', hDi, hDj⟩ : ∃ D' : Nat → Nat → Prop, (∀ k, D' 0 k ↔ w'.heap.size ≤ k ∧ k < w5.heap.size) ∧ ∀ j, j ≠ 0 → ∀ k, D' j k ↔ D j k := ⟨fun j k => if j = 0 then w'.heap.size ≤ k ∧ k < w5.heap.size else D j k, fun k => by simp, fun j hj k => by simp [hj]⟩
      have hold : ∀ j, j ≠ 0 → ∀ k, D j k → D' j k := fun j hj k hk => (hDj j hj k).2 hk
      have hDD : ∀ i j k, D' i k → D' j k → i = j := newD QD QL hDi hDj
      have hLL : ∀ i k, D' i k → k < w5.heap.size := newL QL hDi hDj hb5.size
      have hnew := R_raise (b' := w.heap.size) (ok' := D' 0) ho (fun k hk => ⟨by have := Kd.R_base ho k hk; omega, (hDi k).2 ⟨Kd.R_base ho k hk, Kd.R_lt ho k hk⟩⟩)
      refine hK.out _ _ ⟨x, u1, u2, u3, u4, v0, v1, v2, v3, v4, m, D', (by rw [ha]; exact putSel_upk 0 hb_ rfl rfl rfl), below_step HB hb5, Bk.below QA hb5, fun h_ => Bk.below (Qz h_) hb5, fun h0_ => absurd ((hoff 21 (by kernel_rfl)).symm.trans h0_) (by decide), fun h0_ => absurd ((hoff 20 (by kernel_rfl)).symm.trans h0_) (by decide), hDD, hLL, fun _ _ => hnew, fun h_ h2_ => Kd.R_mono (Kd.R_below (QU1 h_ h2_) hb5) (fun k hk => hold 1 (by decide) k hk), fun h_ h2_ => Kd.R_mono (Kd.R_below (QU2 h_ h2_) hb5) (fun k hk => hold 2 (by decide) k hk), fun h_ h2_ => Kd.R_mono (Kd.R_below (QU3 h_ h2_) hb5) (fun k hk => hold 3 (by decide) k hk), fun h_ h2_ => Kd.R_mono (Kd.R_below (QU4 h_ h2_) hb5) (fun k hk => hold 4 (by decide) k hk), fun h0_ => absurd ((hoff 3 (by kernel_rfl)).symm.trans h0_) (by decide), fun h_ => Kd.R_mono (Kd.R_below (QV1 h_) hb5) (fun k hk => hold 1 (by decide) k hk), fun h_ => Kd.R_mono (Kd.R_below (QV2 h_) hb5) (fun k hk => hold 2 (by decide) k hk), fun h_ => Kd.R_mono (Kd.R_below (QV3 h_) hb5) (fun k hk => hold 3 (by decide) k hk), fun h_ => Kd.R_mono (Kd.R_below (QV4 h_) hb5) (fun k hk => hold 4 (by decide) k hk)⟩
    refine steps_cons ?_ ?_
    · rintro b a w' ⟨u0, u1, u2, u3, u4, v0, v1, v2, v3, v4, m, D, ha, HB, QA, Qz, Qe, Qm, QD, QL, QU0, QU1, QU2, QU3, QU4, QV0, QV1, QV2, QV3, QV4⟩ hb_ hon hoff
      refine ⟨_, rfl, fun K hK => ?_⟩
      have e1 : a.tmps[1]? = some (.pointer (some ⟨g1, 0, none⟩)) := by rw [ha]; exact (putSel_off rfl).trans rfl
      replace ha := Aside0.mk ha
      refine value_ (w1 := w') (v := .pointer (some ⟨g1, 0, none⟩)) (by rfl) rfl ?_ ?_
      · go_simp
        try rfl
      refine hK.out _ _ ⟨u0, u1, u2, u3, u4, v0, v1, v2, v3, v4, m, D, (by rw [ha.out]; exact putSel_upk 1 hb_ rfl rfl rfl), HB, QA, Qz, fun h0_ => absurd ((hoff 21 (by kernel_rfl)).symm.trans h0_) (by decide), fun h0_ => absurd ((hoff 20 (by kernel_rfl)).symm.trans h0_) (by decide), QD, QL, QU0, QU1, QU2, QU3, QU4, fun h0_ => absurd ((hoff 3 (by kernel_rfl)).symm.trans h0_) (by decide), QV1, QV2, QV3, QV4⟩
    refine steps_cons ?_ ?_
    · rintro b a w' ⟨u0, u1, u2, u3, u4, v0, v1, v2, v3, v4, m, D, ha, HB, QA, Qz, Qe, Qm, QD, QL, QU0, QU1, QU2, QU3, QU4, QV0, QV1, QV2, QV3, QV4⟩ hb_ hon hoff
      refine ⟨_, rfl, fun K hK => ?_⟩
      have e4 : a.tmps[4]? = some (.pointer (some ⟨g1, 0, none⟩)) := by rw [ha]; exact putSel_on (e := (1, 4, .pointer (some ⟨g1, 0, none⟩))) 1 rfl rfl (hon 1 (by kernel_rfl)) rfl
      have hc : w'.cell? ⟨g1, 0, none⟩ = some (.slice A0_0 l0_0.length c0_0) := (Bk.cell QA 0).trans rfl
      have HX := Aside0.mk QA
      replace ha := Aside0.mk ha
      refine value_ (w1 := w') (v := .slice A0_0 l0_0.length c0_0) (by rfl) rfl ?_ ?_
      · go_simp
        try rfl
      refine hK.out _ _ ⟨u0, u1, u2, u3, u4, v0, v1, v2, v3, v4, m, D, (by rw [ha.out]; exact putSel_upk 2 hb_ rfl rfl rfl), HB, HX.out, Qz, fun h0_ => absurd ((hoff 21 (by kernel_rfl)).symm.trans h0_) (by decide), fun h0_ => absurd ((hoff 20 (by kernel_rfl)).symm.trans h0_) (by decide), QD, QL, QU0, QU1, QU2, QU3, QU4, fun h0_ => absurd ((hoff 3 (by kernel_rfl)).symm.trans h0_) (by decide), QV1, QV2, QV3, QV4⟩
    refine steps_cons ?_ ?_
    · rintro b a w' ⟨u0, u1, u2, u3, u4, v0, v1, v2, v3, v4, m, D, ha, HB, QA, Qz, Qe, Qm, QD, QL, QU0, QU1, QU2, QU3, QU4, QV0, QV1, QV2, QV3, QV4⟩ hb_ hon hoff
      refine ⟨_, rfl, fun K hK => ?_⟩
      have e3 : a.tmps[3]? = some u0 := by rw [ha]; exact putSel_on (e := (0, 3, u0)) 0 rfl rfl (hon 0 (by kernel_rfl)) rfl
      have e5 : a.tmps[5]? = some (.slice A0_0 l0_0.length c0_0) := by rw [ha]; exact putSel_on (e := (2, 5, .slice A0_0 l0_0.length c0_0)) 2 rfl rfl (hon 2 (by kernel_rfl)) rfl
      have hU := QU0 (hon 0 (by kernel_rfl)) hb_
      refine Kd.R_append_rows_step Kd.string (w0 := w) w.heap.size (by rfl) (.tmp 3) (.tmp 5) 22 9 (.string ⟨#[]⟩) 16 rfl Try.underlying22 info9 rfl (by decide) (by omega) u0 ([] : List ByteArray) l0_0 A0_0 l0_0.length c0_0 (fun k => D 0 k ∨ w'.heap.size ≤ k) (fun _ => False) (eval_of e3) (eval_of e5) (Kd.R_mono hU (fun _ h_ => .inl h_)) (Kd.C_below HR0.out HB) (fun _ _ h_ => h_) (fun _ h_ => h_.elim) (fun _ h_ => .inr h_) HB HB.size (by have := HL0.out; simp; omega) ?_
      intro x w5 ho hb5 hg5 hn5
      rw [List.nil_append] at ho
      have hne1 : some g1 ≠ (u0 : Value).ownBlock := Kd.R_ne hU QA (by decide)
      have hne2 := fun h_ => (Kd.R_ne hU (Qz h_) (by decide) : some g2 ≠ (u0 : Value).ownBlock)
      have hU0 := hU.1
      obtain ⟨D', hDi, hDj⟩ : ∃ D' : Nat → Nat → Prop, (∀ k, D' 0 k ↔ D 0 k ∨ (w'.heap.size ≤ k ∧ k < w5.heap.size)) ∧ ∀ j, j ≠ 0 → ∀ k, D' j k ↔ D j k := ⟨fun j k => if j = 0 then D 0 k ∨ (w'.heap.size ≤ k ∧ k < w5.heap.size) else D j k, fun k => by simp, fun j hj k => by simp [hj]⟩
      have hold : ∀ j, j ≠ 0 → ∀ k, D j k → D' j k := fun j hj k hk => (hDj j hj k).2 hk
      have hDD : ∀ i j k, D' i k → D' j k → i = j := growD QD QL hDi hDj
      have hLL : ∀ i k, D' i k → k < w5.heap.size := growL QL hDi hDj hg5.size
      have hap : ∀ j, j ≠ 0 → ∀ k, D j k → some k ≠ (u0 : Value).ownBlock := fun j hj k hk e_ => hj (QD j 0 k hk (hU0 k e_.symm))
      have hnew := R_raise (b' := w.heap.size) (ok' := D' 0) ho (fun k hk => ⟨Kd.R_base ho k hk, (hDi k).2 (by rcases ho.1 k hk with h_ | h_; exact .inl h_; exact .inr ⟨h_, Kd.R_lt ho k hk⟩)⟩)
      refine hK.out _ _ ⟨u0, u1, u2, u3, u4, x, v1, v2, v3, v4, m, D', (by rw [ha]; exact putSel_upk 3 hb_ rfl rfl rfl), hb5, blk_grown QA hg5 hne1, fun h_ => blk_grown (Qz h_) hg5 (hne2 h_), fun h0_ => absurd ((hoff 21 (by kernel_rfl)).symm.trans h0_) (by decide), fun h0_ => absurd ((hoff 20 (by kernel_rfl)).symm.trans h0_) (by decide), hDD, hLL, fun h_ h2_ => absurd h2_ (by rw [up_self]; decide), fun h_ h2_ => Kd.R_mono (Kd.R_grown (QU1 h_ h2_) hg5 (hap 1 (by decide))) (fun k hk => hold 1 (by decide) k hk), fun h_ h2_ => Kd.R_mono (Kd.R_grown (QU2 h_ h2_) hg5 (hap 2 (by decide))) (fun k hk => hold 2 (by decide) k hk), fun h_ h2_ => Kd.R_mono (Kd.R_grown (QU3 h_ h2_) hg5 (hap 3 (by decide))) (fun k hk => hold 3 (by decide) k hk), fun h_ h2_ => Kd.R_mono (Kd.R_grown (QU4 h_ h2_) hg5 (hap 4 (by decide))) (fun k hk => hold 4 (by decide) k hk), fun _ => hnew, fun h_ => Kd.R_mono (Kd.R_grown (QV1 h_) hg5 (hap 1 (by decide))) (fun k hk => hold 1 (by decide) k hk), fun h_ => Kd.R_mono (Kd.R_grown (QV2 h_) hg5 (hap 2 (by decide))) (fun k hk => hold 2 (by decide) k hk), fun h_ => Kd.R_mono (Kd.R_grown (QV3 h_) hg5 (hap 3 (by decide))) (fun k hk => hold 3 (by decide) k hk), fun h_ => Kd.R_mono (Kd.R_grown (QV4 h_) hg5 (hap 4 (by decide))) (fun k hk => hold 4 (by decide) k hk)⟩
    refine steps_cons ?_ ?_
    · rintro b a w' ⟨u0, u1, u2, u3, u4, v0, v1, v2, v3, v4, m, D, ha, HB, QA, Qz, Qe, Qm, QD, QL, QU0, QU1, QU2, QU3, QU4, QV0, QV1, QV2, QV3, QV4⟩ hb_ hon hoff
      refine ⟨_, rfl, fun K hK => ?_⟩
      refine Kd.R_lit_step Kd.string (w0 := w') w'.heap.size 9 (by rfl) (N := 7) rfl (xs := ([] : List ByteArray)) (inner := []) (ok := fun k => k = w'.heap.size ∨ w'.heap.size ≤ k) (okp := fun _ => False) (by first | (go_simp; done) | (go_simp; rfl)) ⟨rfl, fun j p hj => by simp at hj⟩ (fun _ hk => hk.elim) (.inl rfl) (Below.refl _ _) (Nat.le_refl _) (by simp) ?_
      intro x w5 ho hb5 hg5 hn5
      have hfit := HB.size
      obtain ⟨D', hDi, hDj⟩ : ∃ D' : Nat → Nat → Prop, (∀ k, D' 1 k ↔ w'.heap.size ≤ k ∧ k < w5.heap.size) ∧ ∀ j, j ≠ 1 → ∀ k, D' j k ↔ D j k := ⟨fun j k => if j = 1 then w'.heap.size ≤ k ∧ k < w5.heap.size else D j k, fun k => by simp, fun j hj k => by simp [hj]⟩
      have hold : ∀ j, j ≠ 1 → ∀ k, D j k → D' j k := fun j hj k hk => (hDj j hj k).2 hk
      have hDD : ∀ i j k, D' i k → D' j k → i = j := newD QD QL hDi hDj
      have hLL : ∀ i k, D' i k → k < w5.heap.size := newL QL hDi hDj hb5.size
      have hnew := R_raise (b' := w.heap.size) (ok' := D' 1) ho (fun k hk => ⟨by have := Kd.R_base ho k hk; omega, (hDi k).2 ⟨Kd.R_base ho k hk, Kd.R_lt ho k hk⟩⟩)
      refine hK.out _ _ ⟨u0, x, u2, u3, u4, v0, v1, v2, v3, v4, m, D', (by rw [ha]; exact putSel_upk 4 hb_ rfl rfl rfl), below_step HB hb5, Bk.below QA hb5, fun h_ => Bk.below (Qz h_) hb5, fun h0_ => absurd ((hoff 21 (by kernel_rfl)).symm.trans h0_) (by decide), fun h0_ => absurd ((hoff 20 (by kernel_rfl)).symm.trans h0_) (by decide), hDD, hLL, fun h_ h2_ => Kd.R_mono (Kd.R_below (QU0 h_ h2_) hb5) (fun k hk => hold 0 (by decide) k hk), fun _ _ => hnew, fun h_ h2_ => Kd.R_mono (Kd.R_below (QU2 h_ h2_) hb5) (fun k hk => hold 2 (by decide) k hk), fun h_ h2_ => Kd.R_mono (Kd.R_below (QU3 h_ h2_) hb5) (fun k hk => hold 3 (by decide) k hk), fun h_ h2_ => Kd.R_mono (Kd.R_below (QU4 h_ h2_) hb5) (fun k hk => hold 4 (by decide) k hk), fun h_ => Kd.R_mono (Kd.R_below (QV0 h_) hb5) (fun k hk => hold 0 (by decide) k hk), fun h0_ => absurd ((hoff 7 (by kernel_rfl)).symm.trans h0_) (by decide), fun h_ => Kd.R_mono (Kd.R_below (QV2 h_) hb5) (fun k hk => hold 2 (by decide) k hk), fun h_ => Kd.R_mono (Kd.R_below (QV3 h_) hb5) (fun k hk => hold 3 (by decide) k hk), fun h_ => Kd.R_mono (Kd.R_below (QV4 h_) hb5) (fun k hk => hold 4 (by decide) k hk)⟩
    refine steps_cons ?_ ?_
    · rintro b a w' ⟨u0, u1, u2, u3, u4, v0, v1, v2, v3, v4, m, D, ha, HB, QA, Qz, Qe, Qm, QD, QL, QU0, QU1, QU2, QU3, QU4, QV0, QV1, QV2, QV3, QV4⟩ hb_ hon hoff
      refine ⟨_, rfl, fun K hK => ?_⟩
      have e1 : a.tmps[1]? = some (.pointer (some ⟨g1, 0, none⟩)) := by rw [ha]; exact (putSel_off rfl).trans rfl
      replace ha := Aside0.mk ha
      refine value_ (w1 := w') (v := .pointer (some ⟨g1, 1, none⟩)) (by rfl) rfl ?_ ?_
      · go_simp
        try rfl
      refine hK.out _ _ ⟨u0, u1, u2, u3, u4, v0, v1, v2, v3, v4, m, D, (by rw [ha.out]; exact putSel_upk 5 hb_ rfl rfl rfl), HB, QA, Qz, fun h0_ => absurd ((hoff 21 (by kernel_rfl)).symm.trans h0_) (by decide), fun h0_ => absurd ((hoff 20 (by kernel_rfl)).symm.trans h0_) (by decide), QD, QL, QU0, QU1, QU2, QU3, QU4, QV0, fun h0_ => absurd ((hoff 7 (by kernel_rfl)).symm.trans h0_) (by decide), QV2, QV3, QV4⟩
    refine steps_cons ?_ ?_
    · rintro b a w' ⟨u0, u1, u2, u3, u4, v0, v1, v2, v3, v4, m, D, ha, HB, QA, Qz, Qe, Qm, QD, QL, QU0, QU1, QU2, QU3, QU4, QV0, QV1, QV2, QV3, QV4⟩ hb_ hon hoff
      refine ⟨_, rfl, fun K hK => ?_⟩
      have e4 : a.tmps[8]? = some (.pointer (some ⟨g1, 1, none⟩)) := by rw [ha]; exact putSel_on (e := (5, 8, .pointer (some ⟨g1, 1, none⟩))) 5 rfl rfl (hon 5 (by kernel_rfl)) rfl
      have hc : w'.cell? ⟨g1, 1, none⟩ = some (.slice A0_1 l0_1.length c0_1) := (Bk.cell QA 1).trans rfl
      have HX := Aside0.mk QA
      replace ha := Aside0.mk ha
      refine value_ (w1 := w') (v := .slice A0_1 l0_1.length c0_1) (by rfl) rfl ?_ ?_
      · go_simp
        try rfl
      refine hK.out _ _ ⟨u0, u1, u2, u3, u4, v0, v1, v2, v3, v4, m, D, (by rw [ha.out]; exact putSel_upk 6 hb_ rfl rfl rfl), HB, HX.out, Qz, fun h0_ => absurd ((hoff 21 (by kernel_rfl)).symm.trans h0_) (by decide), fun h0_ => absurd ((hoff 20 (by kernel_rfl)).symm.trans h0_) (by decide), QD, QL, QU0, QU1, QU2, QU3, QU4, QV0, fun h0_ => absurd ((hoff 7 (by kernel_rfl)).symm.trans h0_) (by decide), QV2, QV3, QV4⟩
    refine steps_cons ?_ ?_
    · rintro b a w' ⟨u0, u1, u2, u3, u4, v0, v1, v2, v3, v4, m, D, ha, HB, QA, Qz, Qe, Qm, QD, QL, QU0, QU1, QU2, QU3, QU4, QV0, QV1, QV2, QV3, QV4⟩ hb_ hon hoff
      refine ⟨_, rfl, fun K hK => ?_⟩
      have e3 : a.tmps[7]? = some u1 := by rw [ha]; exact putSel_on (e := (4, 7, u1)) 4 rfl rfl (hon 4 (by kernel_rfl)) rfl
      have e5 : a.tmps[9]? = some (.slice A0_1 l0_1.length c0_1) := by rw [ha]; exact putSel_on (e := (6, 9, .slice A0_1 l0_1.length c0_1)) 6 rfl rfl (hon 6 (by kernel_rfl)) rfl
      have hU := QU1 (hon 4 (by kernel_rfl)) hb_
      refine Kd.R_append_rows_step Kd.string (w0 := w) w.heap.size (by rfl) (.tmp 7) (.tmp 9) 22 9 (.string ⟨#[]⟩) 16 rfl Try.underlying22 info9 rfl (by decide) (by omega) u1 ([] : List ByteArray) l0_1 A0_1 l0_1.length c0_1 (fun k => D 1 k ∨ w'.heap.size ≤ k) (fun _ => False) (eval_of e3) (eval_of e5) (Kd.R_mono hU (fun _ h_ => .inl h_)) (Kd.C_below HR1.out HB) (fun _ _ h_ => h_) (fun _ h_ => h_.elim) (fun _ h_ => .inr h_) HB HB.size (by have := HL1.out; simp; omega) ?_
      intro x w5 ho hb5 hg5 hn5
      rw [List.nil_append] at ho
      have hne1 : some g1 ≠ (u1 : Value).ownBlock := Kd.R_ne hU QA (by decide)
      have hne2 := fun h_ => (Kd.R_ne hU (Qz h_) (by decide) : some g2 ≠ (u1 : Value).ownBlock)
      have hU0 := hU.1
      obtain ⟨D', hDi, hDj⟩ : ∃ D' : Nat → Nat → Prop, (∀ k, D' 1 k ↔ D 1 k ∨ (w'.heap.size ≤ k ∧ k < w5.heap.size)) ∧ ∀ j, j ≠ 1 → ∀ k, D' j k ↔ D j k := ⟨fun j k => if j = 1 then D 1 k ∨ (w'.heap.size ≤ k ∧ k < w5.heap.size) else D j k, fun k => by simp, fun j hj k => by simp [hj]⟩
      have hold : ∀ j, j ≠ 1 → ∀ k, D j k → D' j k := fun j hj k hk => (hDj j hj k).2 hk
      have hDD : ∀ i j k, D' i k → D' j k → i = j := growD QD QL hDi hDj
      have hLL : ∀ i k, D' i k → k < w5.heap.size := growL QL hDi hDj hg5.size
      have hap : ∀ j, j ≠ 1 → ∀ k, D j k → some k ≠ (u1 : Value).ownBlock := fun j hj k hk e_ => hj (QD j 1 k hk (hU0 k e_.symm))
      have hnew := R_raise (b' := w.heap.size) (ok' := D' 1) ho (fun k hk => ⟨Kd.R_base ho k hk, (hDi k).2 (by rcases ho.1 k hk with h_ | h_; exact .inl h_; exact .inr ⟨h_, Kd.R_lt ho k hk⟩)⟩)
      refine hK.out _ _ ⟨u0, u1, u2, u3, u4, v0, x, v2, v3, v4, m, D', (by rw [ha]; exact putSel_upk 7 hb_ rfl rfl rfl), hb5, blk_grown QA hg5 hne1, fun h_ => blk_grown (Qz h_) hg5 (hne2 h_), fun h0_ => absurd ((hoff 21 (by kernel_rfl)).symm.trans h0_) (by decide), fun h0_ => absurd ((hoff 20 (by kernel_rfl)).symm.trans h0_) (by decide), hDD, hLL, fun h_ h2_ => Kd.R_mono (Kd.R_grown (QU0 h_ h2_) hg5 (hap 0 (by decide))) (fun k hk => hold 0 (by decide) k hk), fun h_ h2_ => absurd h2_ (by rw [up_self]; decide), fun h_ h2_ => Kd.R_mono (Kd.R_grown (QU2 h_ h2_) hg5 (hap 2 (by decide))) (fun k hk => hold 2 (by decide) k hk), fun h_ h2_ => Kd.R_mono (Kd.R_grown (QU3 h_ h2_) hg5 (hap 3 (by decide))) (fun k hk => hold 3 (by decide) k hk), fun h_ h2_ => Kd.R_mono (Kd.R_grown (QU4 h_ h2_) hg5 (hap 4 (by decide))) (fun k hk => hold 4 (by decide) k hk), fun h_ => Kd.R_mono (Kd.R_grown (QV0 h_) hg5 (hap 0 (by decide))) (fun k hk => hold 0 (by decide) k hk), fun _ => hnew, fun h_ => Kd.R_mono (Kd.R_grown (QV2 h_) hg5 (hap 2 (by decide))) (fun k hk => hold 2 (by decide) k hk), fun h_ => Kd.R_mono (Kd.R_grown (QV3 h_) hg5 (hap 3 (by decide))) (fun k hk => hold 3 (by decide) k hk), fun h_ => Kd.R_mono (Kd.R_grown (QV4 h_) hg5 (hap 4 (by decide))) (fun k hk => hold 4 (by decide) k hk)⟩
    refine steps_cons ?_ ?_
    · rintro b a w' ⟨u0, u1, u2, u3, u4, v0, v1, v2, v3, v4, m, D, ha, HB, QA, Qz, Qe, Qm, QD, QL, QU0, QU1, QU2, QU3, QU4, QV0, QV1, QV2, QV3, QV4⟩ hb_ hon hoff
      refine ⟨_, rfl, fun K hK => ?_⟩
      refine Kd.R_lit_step (Kd.int .i64) (w0 := w') w'.heap.size 3 (by rfl) (N := 11) rfl (xs := ([] : List Int)) (inner := []) (ok := fun k => k = w'.heap.size ∨ w'.heap.size ≤ k) (okp := fun _ => False) (by first | (go_simp; done) | (go_simp; rfl)) ⟨rfl, fun j p hj => by simp at hj⟩ (fun _ hk => hk.elim) (.inl rfl) (Below.refl _ _) (Nat.le_refl _) (by simp) ?_
      intro x w5 ho hb5 hg5 hn5
      have hfit := HB.size
      obtain ⟨D', hDi, hDj⟩ : ∃ D' : Nat → Nat → Prop, (∀ k, D' 2 k ↔ w'.heap.size ≤ k ∧ k < w5.heap.size) ∧ ∀ j, j ≠ 2 → ∀ k, D' j k ↔ D j k := ⟨fun j k => if j = 2 then w'.heap.size ≤ k ∧ k < w5.heap.size else D j k, fun k => by simp, fun j hj k => by simp [hj]⟩
      have hold : ∀ j, j ≠ 2 → ∀ k, D j k → D' j k := fun j hj k hk => (hDj j hj k).2 hk
      have hDD : ∀ i j k, D' i k → D' j k → i = j := newD QD QL hDi hDj
      have hLL : ∀ i k, D' i k → k < w5.heap.size := newL QL hDi hDj hb5.size
      have hnew := R_raise (b' := w.heap.size) (ok' := D' 2) ho (fun k hk => ⟨by have := Kd.R_base ho k hk; omega, (hDi k).2 ⟨Kd.R_base ho k hk, Kd.R_lt ho k hk⟩⟩)
      refine hK.out _ _ ⟨u0, u1, x, u3, u4, v0, v1, v2, v3, v4, m, D', (by rw [ha]; exact putSel_upk 8 hb_ rfl rfl rfl), below_step HB hb5, Bk.below QA hb5, fun h_ => Bk.below (Qz h_) hb5, fun h0_ => absurd ((hoff 21 (by kernel_rfl)).symm.trans h0_) (by decide), fun h0_ => absurd ((hoff 20 (by kernel_rfl)).symm.trans h0_) (by decide), hDD, hLL, fun h_ h2_ => Kd.R_mono (Kd.R_below (QU0 h_ h2_) hb5) (fun k hk => hold 0 (by decide) k hk), fun h_ h2_ => Kd.R_mono (Kd.R_below (QU1 h_ h2_) hb5) (fun k hk => hold 1 (by decide) k hk), fun _ _ => hnew, fun h_ h2_ => Kd.R_mono (Kd.R_below (QU3 h_ h2_) hb5) (fun k hk => hold 3 (by decide) k hk), fun h_ h2_ => Kd.R_mono (Kd.R_below (QU4 h_ h2_) hb5) (fun k hk => hold 4 (by decide) k hk), fun h_ => Kd.R_mono (Kd.R_below (QV0 h_) hb5) (fun k hk => hold 0 (by decide) k hk), fun h_ => Kd.R_mono (Kd.R_below (QV1 h_) hb5) (fun k hk => hold 1 (by decide) k hk), fun h0_ => absurd ((hoff 11 (by kernel_rfl)).symm.trans h0_) (by decide), fun h_ => Kd.R_mono (Kd.R_below (QV3 h_) hb5) (fun k hk => hold 3 (by decide) k hk), fun h_ => Kd.R_mono (Kd.R_below (QV4 h_) hb5) (fun k hk => hold 4 (by decide) k hk)⟩
    refine steps_cons ?_ ?_
    · rintro b a w' ⟨u0, u1, u2, u3, u4, v0, v1, v2, v3, v4, m, D, ha, HB, QA, Qz, Qe, Qm, QD, QL, QU0, QU1, QU2, QU3, QU4, QV0, QV1, QV2, QV3, QV4⟩ hb_ hon hoff
      refine ⟨_, rfl, fun K hK => ?_⟩
      have e1 : a.tmps[1]? = some (.pointer (some ⟨g1, 0, none⟩)) := by rw [ha]; exact (putSel_off rfl).trans rfl
      replace ha := Aside0.mk ha
      refine value_ (w1 := w') (v := .pointer (some ⟨g1, 2, none⟩)) (by rfl) rfl ?_ ?_
      · go_simp
        try rfl
      refine hK.out _ _ ⟨u0, u1, u2, u3, u4, v0, v1, v2, v3, v4, m, D, (by rw [ha.out]; exact putSel_upk 9 hb_ rfl rfl rfl), HB, QA, Qz, fun h0_ => absurd ((hoff 21 (by kernel_rfl)).symm.trans h0_) (by decide), fun h0_ => absurd ((hoff 20 (by kernel_rfl)).symm.trans h0_) (by decide), QD, QL, QU0, QU1, QU2, QU3, QU4, QV0, QV1, fun h0_ => absurd ((hoff 11 (by kernel_rfl)).symm.trans h0_) (by decide), QV3, QV4⟩
    refine steps_cons ?_ ?_
    · rintro b a w' ⟨u0, u1, u2, u3, u4, v0, v1, v2, v3, v4, m, D, ha, HB, QA, Qz, Qe, Qm, QD, QL, QU0, QU1, QU2, QU3, QU4, QV0, QV1, QV2, QV3, QV4⟩ hb_ hon hoff
      refine ⟨_, rfl, fun K hK => ?_⟩
      have e4 : a.tmps[12]? = some (.pointer (some ⟨g1, 2, none⟩)) := by rw [ha]; exact putSel_on (e := (9, 12, .pointer (some ⟨g1, 2, none⟩))) 9 rfl rfl (hon 9 (by kernel_rfl)) rfl
      have hc : w'.cell? ⟨g1, 2, none⟩ = some (.slice A0_2 l0_2.length c0_2) := (Bk.cell QA 2).trans rfl
      have HX := Aside0.mk QA
      replace ha := Aside0.mk ha
      refine value_ (w1 := w') (v := .slice A0_2 l0_2.length c0_2) (by rfl) rfl ?_ ?_
      · go_simp
        try rfl
      refine hK.out _ _ ⟨u0, u1, u2, u3, u4, v0, v1, v2, v3, v4, m, D, (by rw [ha.out]; exact putSel_upk 10 hb_ rfl rfl rfl), HB, HX.out, Qz, fun h0_ => absurd ((hoff 21 (by kernel_rfl)).symm.trans h0_) (by decide), fun h0_ => absurd ((hoff 20 (by kernel_rfl)).symm.trans h0_) (by decide), QD, QL, QU0, QU1, QU2, QU3, QU4, QV0, QV1, fun h0_ => absurd ((hoff 11 (by kernel_rfl)).symm.trans h0_) (by decide), QV3, QV4⟩
    refine steps_cons ?_ ?_
    · rintro b a w' ⟨u0, u1, u2, u3, u4, v0, v1, v2, v3, v4, m, D, ha, HB, QA, Qz, Qe, Qm, QD, QL, QU0, QU1, QU2, QU3, QU4, QV0, QV1, QV2, QV3, QV4⟩ hb_ hon hoff
      refine ⟨_, rfl, fun K hK => ?_⟩
      have e3 : a.tmps[11]? = some u2 := by rw [ha]; exact putSel_on (e := (8, 11, u2)) 8 rfl rfl (hon 8 (by kernel_rfl)) rfl
      have e5 : a.tmps[13]? = some (.slice A0_2 l0_2.length c0_2) := by rw [ha]; exact putSel_on (e := (10, 13, .slice A0_2 l0_2.length c0_2)) 10 rfl rfl (hon 10 (by kernel_rfl)) rfl
      have hU := QU2 (hon 8 (by kernel_rfl)) hb_
      refine Kd.R_append_rows_step (Kd.int .i64) (w0 := w) w.heap.size (by rfl) (.tmp 11) (.tmp 13) 23 3 (.int .i64 0) 8 rfl Try.underlying23 info3 rfl (by decide) (by omega) u2 ([] : List Int) l0_2 A0_2 l0_2.length c0_2 (fun k => D 2 k ∨ w'.heap.size ≤ k) (fun _ => False) (eval_of e3) (eval_of e5) (Kd.R_mono hU (fun _ h_ => .inl h_)) (Kd.C_below HR2.out HB) (fun _ _ h_ => h_) (fun _ h_ => h_.elim) (fun _ h_ => .inr h_) HB HB.size (by have := HL2.out; simp; omega) ?_
      intro x w5 ho hb5 hg5 hn5
      rw [List.nil_append] at ho
      have hne1 : some g1 ≠ (u2 : Value).ownBlock := Kd.R_ne hU QA (by decide)
      have hne2 := fun h_ => (Kd.R_ne hU (Qz h_) (by decide) : some g2 ≠ (u2 : Value).ownBlock)
      have hU0 := hU.1
      obtain ⟨D', hDi, hDj⟩ : ∃ D' : Nat → Nat → Prop, (∀ k, D' 2 k ↔ D 2 k ∨ (w'.heap.size ≤ k ∧ k < w5.heap.size)) ∧ ∀ j, j ≠ 2 → ∀ k, D' j k ↔ D j k := ⟨fun j k => if j = 2 then D 2 k ∨ (w'.heap.size ≤ k ∧ k < w5.heap.size) else D j k, fun k => by simp, fun j hj k => by simp [hj]⟩
      have hold : ∀ j, j ≠ 2 → ∀ k, D j k → D' j k := fun j hj k hk => (hDj j hj k).2 hk
      have hDD : ∀ i j k, D' i k → D' j k → i = j := growD QD QL hDi hDj
      have hLL : ∀ i k, D' i k → k < w5.heap.size := growL QL hDi hDj hg5.size
      have hap : ∀ j, j ≠ 2 → ∀ k, D j k → some k ≠ (u2 : Value).ownBlock := fun j hj k hk e_ => hj (QD j 2 k hk (hU0 k e_.symm))
      have hnew := R_raise (b' := w.heap.size) (ok' := D' 2) ho (fun k hk => ⟨Kd.R_base ho k hk, (hDi k).2 (by rcases ho.1 k hk with h_ | h_; exact .inl h_; exact .inr ⟨h_, Kd.R_lt ho k hk⟩)⟩)
      refine hK.out _ _ ⟨u0, u1, u2, u3, u4, v0, v1, x, v3, v4, m, D', (by rw [ha]; exact putSel_upk 11 hb_ rfl rfl rfl), hb5, blk_grown QA hg5 hne1, fun h_ => blk_grown (Qz h_) hg5 (hne2 h_), fun h0_ => absurd ((hoff 21 (by kernel_rfl)).symm.trans h0_) (by decide), fun h0_ => absurd ((hoff 20 (by kernel_rfl)).symm.trans h0_) (by decide), hDD, hLL, fun h_ h2_ => Kd.R_mono (Kd.R_grown (QU0 h_ h2_) hg5 (hap 0 (by decide))) (fun k hk => hold 0 (by decide) k hk), fun h_ h2_ => Kd.R_mono (Kd.R_grown (QU1 h_ h2_) hg5 (hap 1 (by decide))) (fun k hk => hold 1 (by decide) k hk), fun h_ h2_ => absurd h2_ (by rw [up_self]; decide), fun h_ h2_ => Kd.R_mono (Kd.R_grown (QU3 h_ h2_) hg5 (hap 3 (by decide))) (fun k hk => hold 3 (by decide) k hk), fun h_ h2_ => Kd.R_mono (Kd.R_grown (QU4 h_ h2_) hg5 (hap 4 (by decide))) (fun k hk => hold 4 (by decide) k hk), fun h_ => Kd.R_mono (Kd.R_grown (QV0 h_) hg5 (hap 0 (by decide))) (fun k hk => hold 0 (by decide) k hk), fun h_ => Kd.R_mono (Kd.R_grown (QV1 h_) hg5 (hap 1 (by decide))) (fun k hk => hold 1 (by decide) k hk), fun _ => hnew, fun h_ => Kd.R_mono (Kd.R_grown (QV3 h_) hg5 (hap 3 (by decide))) (fun k hk => hold 3 (by decide) k hk), fun h_ => Kd.R_mono (Kd.R_grown (QV4 h_) hg5 (hap 4 (by decide))) (fun k hk => hold 4 (by decide) k hk)⟩
    refine steps_cons ?_ ?_
    · rintro b a w' ⟨u0, u1, u2, u3, u4, v0, v1, v2, v3, v4, m, D, ha, HB, QA, Qz, Qe, Qm, QD, QL, QU0, QU1, QU2, QU3, QU4, QV0, QV1, QV2, QV3, QV4⟩ hb_ hon hoff
      refine ⟨_, rfl, fun K hK => ?_⟩
      refine Kd.R_lit_step (Kd.int .i64) (w0 := w') w'.heap.size 3 (by rfl) (N := 15) rfl (xs := ([] : List Int)) (inner := []) (ok := fun k => k = w'.heap.size ∨ w'.heap.size ≤ k) (okp := fun _ => False) (by first | (go_simp; done) | (go_simp; rfl)) ⟨rfl, fun j p hj => by simp at hj⟩ (fun _ hk => hk.elim) (.inl rfl) (Below.refl _ _) (Nat.le_refl _) (by simp) ?_
      intro x w5 ho hb5 hg5 hn5
      have hfit := HB.size
      obtain ⟨D', hDi, hDj⟩ : ∃ D' : Nat → Nat → Prop, (∀ k, D' 3 k ↔ w'.heap.size ≤ k ∧ k < w5.heap.size) ∧ ∀ j, j ≠ 3 → ∀ k, D' j k ↔ D j k := ⟨fun j k => if j = 3 then w'.heap.size ≤ k ∧ k < w5.heap.size else D j k, fun k => by simp, fun j hj k => by simp [hj]⟩
      have hold : ∀ j, j ≠ 3 → ∀ k, D j k → D' j k := fun j hj k hk => (hDj j hj k).2 hk
      have hDD : ∀ i j k, D' i k → D' j k → i = j := newD QD QL hDi hDj
      have hLL : ∀ i k, D' i k → k < w5.heap.size := newL QL hDi hDj hb5.size
      have hnew := R_raise (b' := w.heap.size) (ok' := D' 3) ho (fun k hk => ⟨by have := Kd.R_base ho k hk; omega, (hDi k).2 ⟨Kd.R_base ho k hk, Kd.R_lt ho k hk⟩⟩)
      refine hK.out _ _ ⟨u0, u1, u2, x, u4, v0, v1, v2, v3, v4, m, D', (by rw [ha]; exact putSel_upk 12 hb_ rfl rfl rfl), below_step HB hb5, Bk.below QA hb5, fun h_ => Bk.below (Qz h_) hb5, fun h0_ => absurd ((hoff 21 (by kernel_rfl)).symm.trans h0_) (by decide), fun h0_ => absurd ((hoff 20 (by kernel_rfl)).symm.trans h0_) (by decide), hDD, hLL, fun h_ h2_ => Kd.R_mono (Kd.R_below (QU0 h_ h2_) hb5) (fun k hk => hold 0 (by decide) k hk), fun h_ h2_ => Kd.R_mono (Kd.R_below (QU1 h_ h2_) hb5) (fun k hk => hold 1 (by decide) k hk), fun h_ h2_ => Kd.R_mono (Kd.R_below (QU2 h_ h2_) hb5) (fun k hk => hold 2 (by decide) k hk), fun _ _ => hnew, fun h_ h2_ => Kd.R_mono (Kd.R_below (QU4 h_ h2_) hb5) (fun k hk => hold 4 (by decide) k hk), fun h_ => Kd.R_mono (Kd.R_below (QV0 h_) hb5) (fun k hk => hold 0 (by decide) k hk), fun h_ => Kd.R_mono (Kd.R_below (QV1 h_) hb5) (fun k hk => hold 1 (by decide) k hk), fun h_ => Kd.R_mono (Kd.R_below (QV2 h_) hb5) (fun k hk => hold 2 (by decide) k hk), fun h0_ => absurd ((hoff 15 (by kernel_rfl)).symm.trans h0_) (by decide), fun h_ => Kd.R_mono (Kd.R_below (QV4 h_) hb5) (fun k hk => hold 4 (by decide) k hk)⟩
    refine steps_cons ?_ ?_
    · rintro b a w' ⟨u0, u1, u2, u3, u4, v0, v1, v2, v3, v4, m, D, ha, HB, QA, Qz, Qe, Qm, QD, QL, QU0, QU1, QU2, QU3, QU4, QV0, QV1, QV2, QV3, QV4⟩ hb_ hon hoff
      refine ⟨_, rfl, fun K hK => ?_⟩
      have e1 : a.tmps[1]? = some (.pointer (some ⟨g1, 0, none⟩)) := by rw [ha]; exact (putSel_off rfl).trans rfl
      replace ha := Aside0.mk ha
      refine value_ (w1 := w') (v := .pointer (some ⟨g1, 3, none⟩)) (by rfl) rfl ?_ ?_
      · go_simp
        try rfl
      refine hK.out _ _ ⟨u0, u1, u2, u3, u4, v0, v1, v2, v3, v4, m, D, (by rw [ha.out]; exact putSel_upk 13 hb_ rfl rfl rfl), HB, QA, Qz, fun h0_ => absurd ((hoff 21 (by kernel_rfl)).symm.trans h0_) (by decide), fun h0_ => absurd ((hoff 20 (by kernel_rfl)).symm.trans h0_) (by decide), QD, QL, QU0, QU1, QU2, QU3, QU4, QV0, QV1, QV2, fun h0_ => absurd ((hoff 15 (by kernel_rfl)).symm.trans h0_) (by decide), QV4⟩
    refine steps_cons ?_ ?_
    · rintro b a w' ⟨u0, u1, u2, u3, u4, v0, v1, v2, v3, v4, m, D, ha, HB, QA, Qz, Qe, Qm, QD, QL, QU0, QU1, QU2, QU3, QU4, QV0, QV1, QV2, QV3, QV4⟩ hb_ hon hoff
      refine ⟨_, rfl, fun K hK => ?_⟩
      have e4 : a.tmps[16]? = some (.pointer (some ⟨g1, 3, none⟩)) := by rw [ha]; exact putSel_on (e := (13, 16, .pointer (some ⟨g1, 3, none⟩))) 13 rfl rfl (hon 13 (by kernel_rfl)) rfl
      have hc : w'.cell? ⟨g1, 3, none⟩ = some (.slice A0_3 l0_3.length c0_3) := (Bk.cell QA 3).trans rfl
      have HX := Aside0.mk QA
      replace ha := Aside0.mk ha
      refine value_ (w1 := w') (v := .slice A0_3 l0_3.length c0_3) (by rfl) rfl ?_ ?_
      · go_simp
        try rfl
      refine hK.out _ _ ⟨u0, u1, u2, u3, u4, v0, v1, v2, v3, v4, m, D, (by rw [ha.out]; exact putSel_upk 14 hb_ rfl rfl rfl), HB, HX.out, Qz, fun h0_ => absurd ((hoff 21 (by kernel_rfl)).symm.trans h0_) (by decide), fun h0_ => absurd ((hoff 20 (by kernel_rfl)).symm.trans h0_) (by decide), QD, QL, QU0, QU1, QU2, QU3, QU4, QV0, QV1, QV2, fun h0_ => absurd ((hoff 15 (by kernel_rfl)).symm.trans h0_) (by decide), QV4⟩
    refine steps_cons ?_ ?_
    · rintro b a w' ⟨u0, u1, u2, u3, u4, v0, v1, v2, v3, v4, m, D, ha, HB, QA, Qz, Qe, Qm, QD, QL, QU0, QU1, QU2, QU3, QU4, QV0, QV1, QV2, QV3, QV4⟩ hb_ hon hoff
      refine ⟨_, rfl, fun K hK => ?_⟩
      have e3 : a.tmps[15]? = some u3 := by rw [ha]; exact putSel_on (e := (12, 15, u3)) 12 rfl rfl (hon 12 (by kernel_rfl)) rfl
      have e5 : a.tmps[17]? = some (.slice A0_3 l0_3.length c0_3) := by rw [ha]; exact putSel_on (e := (14, 17, .slice A0_3 l0_3.length c0_3)) 14 rfl rfl (hon 14 (by kernel_rfl)) rfl
      have hU := QU3 (hon 12 (by kernel_rfl)) hb_
      refine Kd.R_append_rows_step (Kd.int .i64) (w0 := w) w.heap.size (by rfl) (.tmp 15) (.tmp 17) 23 3 (.int .i64 0) 8 rfl Try.underlying23 info3 rfl (by decide) (by omega) u3 ([] : List Int) l0_3 A0_3 l0_3.length c0_3 (fun k => D 3 k ∨ w'.heap.size ≤ k) (fun _ => False) (eval_of e3) (eval_of e5) (Kd.R_mono hU (fun _ h_ => .inl h_)) (Kd.C_below HR3.out HB) (fun _ _ h_ => h_) (fun _ h_ => h_.elim) (fun _ h_ => .inr h_) HB HB.size (by have := HL3.out; simp; omega) ?_
      intro x w5 ho hb5 hg5 hn5
      rw [List.nil_append] at ho
      have hne1 : some g1 ≠ (u3 : Value).ownBlock := Kd.R_ne hU QA (by decide)
      have hne2 := fun h_ => (Kd.R_ne hU (Qz h_) (by decide) : some g2 ≠ (u3 : Value).ownBlock)
      have hU0 := hU.1
      obtain ⟨D', hDi, hDj⟩ : ∃ D' : Nat → Nat → Prop, (∀ k, D' 3 k ↔ D 3 k ∨ (w'.heap.size ≤ k ∧ k < w5.heap.size)) ∧ ∀ j, j ≠ 3 → ∀ k, D' j k ↔ D j k := ⟨fun j k => if j = 3 then D 3 k ∨ (w'.heap.size ≤ k ∧ k < w5.heap.size) else D j k, fun k => by simp, fun j hj k => by simp [hj]⟩
      have hold : ∀ j, j ≠ 3 → ∀ k, D j k → D' j k := fun j hj k hk => (hDj j hj k).2 hk
      have hDD : ∀ i j k, D' i k → D' j k → i = j := growD QD QL hDi hDj
      have hLL : ∀ i k, D' i k → k < w5.heap.size := growL QL hDi hDj hg5.size
      have hap : ∀ j, j ≠ 3 → ∀ k, D j k → some k ≠ (u3 : Value).ownBlock := fun j hj k hk e_ => hj (QD j 3 k hk (hU0 k e_.symm))
      have hnew := R_raise (b' := w.heap.size) (ok' := D' 3) ho (fun k hk => ⟨Kd.R_base ho k hk, (hDi k).2 (by rcases ho.1 k hk with h_ | h_; exact .inl h_; exact .inr ⟨h_, Kd.R_lt ho k hk⟩)⟩)
      refine hK.out _ _ ⟨u0, u1, u2, u3, u4, v0, v1, v2, x, v4, m, D', (by rw [ha]; exact putSel_upk 15 hb_ rfl rfl rfl), hb5, blk_grown QA hg5 hne1, fun h_ => blk_grown (Qz h_) hg5 (hne2 h_), fun h0_ => absurd ((hoff 21 (by kernel_rfl)).symm.trans h0_) (by decide), fun h0_ => absurd ((hoff 20 (by kernel_rfl)).symm.trans h0_) (by decide), hDD, hLL, fun h_ h2_ => Kd.R_mono (Kd.R_grown (QU0 h_ h2_) hg5 (hap 0 (by decide))) (fun k hk => hold 0 (by decide) k hk), fun h_ h2_ => Kd.R_mono (Kd.R_grown (QU1 h_ h2_) hg5 (hap 1 (by decide))) (fun k hk => hold 1 (by decide) k hk), fun h_ h2_ => Kd.R_mono (Kd.R_grown (QU2 h_ h2_) hg5 (hap 2 (by decide))) (fun k hk => hold 2 (by decide) k hk), fun h_ h2_ => absurd h2_ (by rw [up_self]; decide), fun h_ h2_ => Kd.R_mono (Kd.R_grown (QU4 h_ h2_) hg5 (hap 4 (by decide))) (fun k hk => hold 4 (by decide) k hk), fun h_ => Kd.R_mono (Kd.R_grown (QV0 h_) hg5 (hap 0 (by decide))) (fun k hk => hold 0 (by decide) k hk), fun h_ => Kd.R_mono (Kd.R_grown (QV1 h_) hg5 (hap 1 (by decide))) (fun k hk => hold 1 (by decide) k hk), fun h_ => Kd.R_mono (Kd.R_grown (QV2 h_) hg5 (hap 2 (by decide))) (fun k hk => hold 2 (by decide) k hk), fun _ => hnew, fun h_ => Kd.R_mono (Kd.R_grown (QV4 h_) hg5 (hap 4 (by decide))) (fun k hk => hold 4 (by decide) k hk)⟩
    refine steps_cons ?_ ?_
    · rintro b a w' ⟨u0, u1, u2, u3, u4, v0, v1, v2, v3, v4, m, D, ha, HB, QA, Qz, Qe, Qm, QD, QL, QU0, QU1, QU2, QU3, QU4, QV0, QV1, QV2, QV3, QV4⟩ hb_ hon hoff
      refine ⟨_, rfl, fun K hK => ?_⟩
      refine Kd.R_lit_step (Kd.int .i64) (w0 := w') w'.heap.size 3 (by rfl) (N := 19) rfl (xs := ([] : List Int)) (inner := []) (ok := fun k => k = w'.heap.size ∨ w'.heap.size ≤ k) (okp := fun _ => False) (by first | (go_simp; done) | (go_simp; rfl)) ⟨rfl, fun j p hj => by simp at hj⟩ (fun _ hk => hk.elim) (.inl rfl) (Below.refl _ _) (Nat.le_refl _) (by simp) ?_
      intro x w5 ho hb5 hg5 hn5
      have hfit := HB.size
      obtain ⟨D', hDi, hDj⟩ : ∃ D' : Nat → Nat → Prop, (∀ k, D' 4 k ↔ w'.heap.size ≤ k ∧ k < w5.heap.size) ∧ ∀ j, j ≠ 4 → ∀ k, D' j k ↔ D j k := ⟨fun j k => if j = 4 then w'.heap.size ≤ k ∧ k < w5.heap.size else D j k, fun k => by simp, fun j hj k => by simp [hj]⟩
      have hold : ∀ j, j ≠ 4 → ∀ k, D j k → D' j k := fun j hj k hk => (hDj j hj k).2 hk
      have hDD : ∀ i j k, D' i k → D' j k → i = j := newD QD QL hDi hDj
      have hLL : ∀ i k, D' i k → k < w5.heap.size := newL QL hDi hDj hb5.size
      have hnew := R_raise (b' := w.heap.size) (ok' := D' 4) ho (fun k hk => ⟨by have := Kd.R_base ho k hk; omega, (hDi k).2 ⟨Kd.R_base ho k hk, Kd.R_lt ho k hk⟩⟩)
      refine hK.out _ _ ⟨u0, u1, u2, u3, x, v0, v1, v2, v3, v4, m, D', (by rw [ha]; exact putSel_upk 16 hb_ rfl rfl rfl), below_step HB hb5, Bk.below QA hb5, fun h_ => Bk.below (Qz h_) hb5, fun h0_ => absurd ((hoff 21 (by kernel_rfl)).symm.trans h0_) (by decide), fun h0_ => absurd ((hoff 20 (by kernel_rfl)).symm.trans h0_) (by decide), hDD, hLL, fun h_ h2_ => Kd.R_mono (Kd.R_below (QU0 h_ h2_) hb5) (fun k hk => hold 0 (by decide) k hk), fun h_ h2_ => Kd.R_mono (Kd.R_below (QU1 h_ h2_) hb5) (fun k hk => hold 1 (by decide) k hk), fun h_ h2_ => Kd.R_mono (Kd.R_below (QU2 h_ h2_) hb5) (fun k hk => hold 2 (by decide) k hk), fun h_ h2_ => Kd.R_mono (Kd.R_below (QU3 h_ h2_) hb5) (fun k hk => hold 3 (by decide) k hk), fun _ _ => hnew, fun h_ => Kd.R_mono (Kd.R_below (QV0 h_) hb5) (fun k hk => hold 0 (by decide) k hk), fun h_ => Kd.R_mono (Kd.R_below (QV1 h_) hb5) (fun k hk => hold 1 (by decide) k hk), fun h_ => Kd.R_mono (Kd.R_below (QV2 h_) hb5) (fun k hk => hold 2 (by decide) k hk), fun h_ => Kd.R_mono (Kd.R_below (QV3 h_) hb5) (fun k hk => hold 3 (by decide) k hk), fun h0_ => absurd ((hoff 19 (by kernel_rfl)).symm.trans h0_) (by decide)⟩
    refine steps_cons ?_ ?_
    · rintro b a w' ⟨u0, u1, u2, u3, u4, v0, v1, v2, v3, v4, m, D, ha, HB, QA, Qz, Qe, Qm, QD, QL, QU0, QU1, QU2, QU3, QU4, QV0, QV1, QV2, QV3, QV4⟩ hb_ hon hoff
      refine ⟨_, rfl, fun K hK => ?_⟩
      have e1 : a.tmps[1]? = some (.pointer (some ⟨g1, 0, none⟩)) := by rw [ha]; exact (putSel_off rfl).trans rfl
      replace ha := Aside0.mk ha
      refine value_ (w1 := w') (v := .pointer (some ⟨g1, 4, none⟩)) (by rfl) rfl ?_ ?_
      · go_simp
        try rfl
      refine hK.out _ _ ⟨u0, u1, u2, u3, u4, v0, v1, v2, v3, v4, m, D, (by rw [ha.out]; exact putSel_upk 17 hb_ rfl rfl rfl), HB, QA, Qz, fun h0_ => absurd ((hoff 21 (by kernel_rfl)).symm.trans h0_) (by decide), fun h0_ => absurd ((hoff 20 (by kernel_rfl)).symm.trans h0_) (by decide), QD, QL, QU0, QU1, QU2, QU3, QU4, QV0, QV1, QV2, QV3, fun h0_ => absurd ((hoff 19 (by kernel_rfl)).symm.trans h0_) (by decide)⟩
    refine steps_cons ?_ ?_
    · rintro b a w' ⟨u0, u1, u2, u3, u4, v0, v1, v2, v3, v4, m, D, ha, HB, QA, Qz, Qe, Qm, QD, QL, QU0, QU1, QU2, QU3, QU4, QV0, QV1, QV2, QV3, QV4⟩ hb_ hon hoff
      refine ⟨_, rfl, fun K hK => ?_⟩
      have e4 : a.tmps[20]? = some (.pointer (some ⟨g1, 4, none⟩)) := by rw [ha]; exact putSel_on (e := (17, 20, .pointer (some ⟨g1, 4, none⟩))) 17 rfl rfl (hon 17 (by kernel_rfl)) rfl
      have hc : w'.cell? ⟨g1, 4, none⟩ = some (.slice A0_4 l0_4.length c0_4) := (Bk.cell QA 4).trans rfl
      have HX := Aside0.mk QA
      replace ha := Aside0.mk ha
      refine value_ (w1 := w') (v := .slice A0_4 l0_4.length c0_4) (by rfl) rfl ?_ ?_
      · go_simp
        try rfl
      refine hK.out _ _ ⟨u0, u1, u2, u3, u4, v0, v1, v2, v3, v4, m, D, (by rw [ha.out]; exact putSel_upk 18 hb_ rfl rfl rfl), HB, HX.out, Qz, fun h0_ => absurd ((hoff 21 (by kernel_rfl)).symm.trans h0_) (by decide), fun h0_ => absurd ((hoff 20 (by kernel_rfl)).symm.trans h0_) (by decide), QD, QL, QU0, QU1, QU2, QU3, QU4, QV0, QV1, QV2, QV3, fun h0_ => absurd ((hoff 19 (by kernel_rfl)).symm.trans h0_) (by decide)⟩
    refine steps_cons ?_ ?_
    · rintro b a w' ⟨u0, u1, u2, u3, u4, v0, v1, v2, v3, v4, m, D, ha, HB, QA, Qz, Qe, Qm, QD, QL, QU0, QU1, QU2, QU3, QU4, QV0, QV1, QV2, QV3, QV4⟩ hb_ hon hoff
      refine ⟨_, rfl, fun K hK => ?_⟩
      have e3 : a.tmps[19]? = some u4 := by rw [ha]; exact putSel_on (e := (16, 19, u4)) 16 rfl rfl (hon 16 (by kernel_rfl)) rfl
      have e5 : a.tmps[21]? = some (.slice A0_4 l0_4.length c0_4) := by rw [ha]; exact putSel_on (e := (18, 21, .slice A0_4 l0_4.length c0_4)) 18 rfl rfl (hon 18 (by kernel_rfl)) rfl
      have hU := QU4 (hon 16 (by kernel_rfl)) hb_
      refine Kd.R_append_rows_step (Kd.int .i64) (w0 := w) w.heap.size (by rfl) (.tmp 19) (.tmp 21) 23 3 (.int .i64 0) 8 rfl Try.underlying23 info3 rfl (by decide) (by omega) u4 ([] : List Int) l0_4 A0_4 l0_4.length c0_4 (fun k => D 4 k ∨ w'.heap.size ≤ k) (fun _ => False) (eval_of e3) (eval_of e5) (Kd.R_mono hU (fun _ h_ => .inl h_)) (Kd.C_below HR4.out HB) (fun _ _ h_ => h_) (fun _ h_ => h_.elim) (fun _ h_ => .inr h_) HB HB.size (by have := HL4.out; simp; omega) ?_
      intro x w5 ho hb5 hg5 hn5
      rw [List.nil_append] at ho
      have hne1 : some g1 ≠ (u4 : Value).ownBlock := Kd.R_ne hU QA (by decide)
      have hne2 := fun h_ => (Kd.R_ne hU (Qz h_) (by decide) : some g2 ≠ (u4 : Value).ownBlock)
      have hU0 := hU.1
      obtain ⟨D', hDi, hDj⟩ : ∃ D' : Nat → Nat → Prop, (∀ k, D' 4 k ↔ D 4 k ∨ (w'.heap.size ≤ k ∧ k < w5.heap.size)) ∧ ∀ j, j ≠ 4 → ∀ k, D' j k ↔ D j k := ⟨fun j k => if j = 4 then D 4 k ∨ (w'.heap.size ≤ k ∧ k < w5.heap.size) else D j k, fun k => by simp, fun j hj k => by simp [hj]⟩
      have hold : ∀ j, j ≠ 4 → ∀ k, D j k → D' j k := fun j hj k hk => (hDj j hj k).2 hk
      have hDD : ∀ i j k, D' i k → D' j k → i = j := growD QD QL hDi hDj
      have hLL : ∀ i k, D' i k → k < w5.heap.size := growL QL hDi hDj hg5.size
      have hap : ∀ j, j ≠ 4 → ∀ k, D j k → some k ≠ (u4 : Value).ownBlock := fun j hj k hk e_ => hj (QD j 4 k hk (hU0 k e_.symm))
      have hnew := R_raise (b' := w.heap.size) (ok' := D' 4) ho (fun k hk => ⟨Kd.R_base ho k hk, (hDi k).2 (by rcases ho.1 k hk with h_ | h_; exact .inl h_; exact .inr ⟨h_, Kd.R_lt ho k hk⟩)⟩)
      refine hK.out _ _ ⟨u0, u1, u2, u3, u4, v0, v1, v2, v3, x, m, D', (by rw [ha]; exact putSel_upk 19 hb_ rfl rfl rfl), hb5, blk_grown QA hg5 hne1, fun h_ => blk_grown (Qz h_) hg5 (hne2 h_), fun h0_ => absurd ((hoff 21 (by kernel_rfl)).symm.trans h0_) (by decide), fun h0_ => absurd ((hoff 20 (by kernel_rfl)).symm.trans h0_) (by decide), hDD, hLL, fun h_ h2_ => Kd.R_mono (Kd.R_grown (QU0 h_ h2_) hg5 (hap 0 (by decide))) (fun k hk => hold 0 (by decide) k hk), fun h_ h2_ => Kd.R_mono (Kd.R_grown (QU1 h_ h2_) hg5 (hap 1 (by decide))) (fun k hk => hold 1 (by decide) k hk), fun h_ h2_ => Kd.R_mono (Kd.R_grown (QU2 h_ h2_) hg5 (hap 2 (by decide))) (fun k hk => hold 2 (by decide) k hk), fun h_ h2_ => Kd.R_mono (Kd.R_grown (QU3 h_ h2_) hg5 (hap 3 (by decide))) (fun k hk => hold 3 (by decide) k hk), fun h_ h2_ => absurd h2_ (by rw [up_self]; decide), fun h_ => Kd.R_mono (Kd.R_grown (QV0 h_) hg5 (hap 0 (by decide))) (fun k hk => hold 0 (by decide) k hk), fun h_ => Kd.R_mono (Kd.R_grown (QV1 h_) hg5 (hap 1 (by decide))) (fun k hk => hold 1 (by decide) k hk), fun h_ => Kd.R_mono (Kd.R_grown (QV2 h_) hg5 (hap 2 (by decide))) (fun k hk => hold 2 (by decide) k hk), fun h_ => Kd.R_mono (Kd.R_grown (QV3 h_) hg5 (hap 3 (by decide))) (fun k hk => hold 3 (by decide) k hk), fun _ => hnew⟩
    refine steps_cons ?_ ?_
    · rintro b a w' ⟨u0, u1, u2, u3, u4, v0, v1, v2, v3, v4, m, D, ha, HB, QA, Qz, Qe, Qm, QD, QL, QU0, QU1, QU2, QU3, QU4, QV0, QV1, QV2, QV3, QV4⟩ hb_ hon hoff
      refine ⟨_, rfl, fun K hK => ?_⟩
      have e0 : a.tmps[6]? = some v0 := by rw [ha]; exact putSel_on (e := (3, 6, v0)) 3 rfl rfl (hon 3 (by kernel_rfl)) rfl
      have e1 : a.tmps[10]? = some v1 := by rw [ha]; exact putSel_on (e := (7, 10, v1)) 7 rfl rfl (hon 7 (by kernel_rfl)) rfl
      have e2 : a.tmps[14]? = some v2 := by rw [ha]; exact putSel_on (e := (11, 14, v2)) 11 rfl rfl (hon 11 (by kernel_rfl)) rfl
      have e3 : a.tmps[18]? = some v3 := by rw [ha]; exact putSel_on (e := (15, 18, v3)) 15 rfl rfl (hon 15 (by kernel_rfl)) rfl
      have e4 : a.tmps[22]? = some v4 := by rw [ha]; exact putSel_on (e := (19, 22, v4)) 19 rfl rfl (hon 19 (by kernel_rfl)) rfl
      replace ha := Aside0.mk ha
      obtain ⟨A0, c0, eo_⟩ := Kd.R_slice (QV0 (hon 3 (by kernel_rfl)))
      subst eo_
      obtain ⟨A1, c1, eo_⟩ := Kd.R_slice (QV1 (hon 7 (by kernel_rfl)))
      subst eo_
      obtain ⟨A2, c2, eo_⟩ := Kd.R_slice (QV2 (hon 11 (by kernel_rfl)))
      subst eo_
      obtain ⟨A3, c3, eo_⟩ := Kd.R_slice (QV3 (hon 15 (by kernel_rfl)))
      subst eo_
      obtain ⟨A4, c4, eo_⟩ := Kd.R_slice (QV4 (hon 19 (by kernel_rfl)))
      subst eo_
      refine value_ (w1 := w') (v := .agg #[.slice A0 l0_0.length c0, .slice A1 l0_1.length c1, .slice A2 l0_2.length c2, .slice A3 l0_3.length c3, .slice A4 l0_4.length c4]) (by rfl) rfl ?_ ?_
      · go_simp
        try rfl
      refine hK.out _ _ ⟨u0, u1, u2, u3, u4, .slice A0 l0_0.length c0, .slice A1 l0_1.length c1, .slice A2 l0_2.length c2, .slice A3 l0_3.length c3, .slice A4 l0_4.length c4, (.agg #[.slice A0 l0_0.length c0, .slice A1 l0_1.length c1, .slice A2 l0_2.length c2, .slice A3 l0_3.length c3, .slice A4 l0_4.length c4]), D, (by rw [ha.out]; exact putSel_upk 20 hb_ rfl rfl rfl), HB, QA, Qz, fun h0_ => absurd ((hoff 21 (by kernel_rfl)).symm.trans h0_) (by decide), fun _ => rfl, QD, QL, QU0, QU1, QU2, QU3, QU4, QV0, QV1, QV2, QV3, QV4⟩
    refine steps_cons ?_ ?_
    · rintro b a w' ⟨u0, u1, u2, u3, u4, v0, v1, v2, v3, v4, m, D, ha, HB, QA, Qz, Qe, Qm, QD, QL, QU0, QU1, QU2, QU3, QU4, QV0, QV1, QV2, QV3, QV4⟩ hb_ hon hoff
      refine ⟨_, rfl, fun K hK => ?_⟩
      have e0 : a.tmps[2]? = some (.pointer (some ⟨g2, 0, none⟩)) := by rw [ha]; exact (putSel_off rfl).trans rfl
      have e6 : a.tmps[23]? = some m := by rw [ha]; exact putSel_on (e := (20, 23, m)) 20 rfl rfl (hon 20 (by kernel_rfl)) rfl
      rw [Qm (hon 20 (by kernel_rfl))] at e6
      have hone0 : (v0 : Value).oneCell' = true := by obtain ⟨A_, c_, e_⟩ := Kd.R_slice (QV0 (hon 3 (by kernel_rfl))); rw [e_]; rfl
      have hone1 : (v1 : Value).oneCell' = true := by obtain ⟨A_, c_, e_⟩ := Kd.R_slice (QV1 (hon 7 (by kernel_rfl))); rw [e_]; rfl
      have hone2 : (v2 : Value).oneCell' = true := by obtain ⟨A_, c_, e_⟩ := Kd.R_slice (QV2 (hon 11 (by kernel_rfl))); rw [e_]; rfl
      have hone3 : (v3 : Value).oneCell' = true := by obtain ⟨A_, c_, e_⟩ := Kd.R_slice (QV3 (hon 15 (by kernel_rfl))); rw [e_]; rfl
      have hone4 : (v4 : Value).oneCell' = true := by obtain ⟨A_, c_, e_⟩ := Kd.R_slice (QV4 (hon 19 (by kernel_rfl))); rw [e_]; rfl
      have hty0 := (Kd.R_ne (QV0 (hon 3 (by kernel_rfl))) (Qz hb_) (by decide) : some g2 ≠ (v0 : Value).ownBlock)
      have hty1 := (Kd.R_ne (QV1 (hon 7 (by kernel_rfl))) (Qz hb_) (by decide) : some g2 ≠ (v1 : Value).ownBlock)
      have hty2 := (Kd.R_ne (QV2 (hon 11 (by kernel_rfl))) (Qz hb_) (by decide) : some g2 ≠ (v2 : Value).ownBlock)
      have hty3 := (Kd.R_ne (QV3 (hon 15 (by kernel_rfl))) (Qz hb_) (by decide) : some g2 ≠ (v3 : Value).ownBlock)
      have hty4 := (Kd.R_ne (QV4 (hon 19 (by kernel_rfl))) (Qz hb_) (by decide) : some g2 ≠ (v4 : Value).ownBlock)
      refine wp_storeRow_step (by rfl) rfl rfl (eval_of e0) (eval_of e6) (Qz hb_) (by kernel_rfl) rfl (by simp [hone0, hone1, hone2, hone3, hone4]) ?_
      intro w5 hk5 hg5
      refine hK.out _ _ ⟨u0, u1, u2, u3, u4, v0, v1, v2, v3, v4, m, D, (by rw [ha]; exact putSel_none (v := undef) rfl), below_row HB hg5 HGE.out, blk_row QA hg5 (by intro e_; have := HG12.out; omega), fun h_ => absurd h_ (by rw [up_self]; decide), fun _ => hk5, Qm, QD, fun i k hk => by have := QL i k hk; have := hg5.2; omega, fun h_ h2_ => absurd (hon 3 (by kernel_rfl)) (by rw [show b 3 = false from h2_]; decide), fun h_ h2_ => absurd (hon 7 (by kernel_rfl)) (by rw [show b 7 = false from h2_]; decide), fun h_ h2_ => absurd (hon 11 (by kernel_rfl)) (by rw [show b 11 = false from h2_]; decide), fun h_ h2_ => absurd (hon 15 (by kernel_rfl)) (by rw [show b 15 = false from h2_]; decide), fun h_ h2_ => absurd (hon 19 (by kernel_rfl)) (by rw [show b 19 = false from h2_]; decide), fun h_ => R_row (fun h => h) (QV0 h_) hg5 hty0, fun h_ => R_row (fun h => h) (QV1 h_) hg5 hty1, fun h_ => R_row (fun h => h) (QV2 h_) hg5 hty2, fun h_ => R_row (fun h => h) (QV3 h_) hg5 hty3, fun h_ => R_row (fun h => h) (QV4 h_) hg5 hty4⟩
    exact steps_nil
  rintro b a w25 hall ⟨u0, u1, u2, u3, u4, v0, v1, v2, v3, v4, m, D, ha, HB, QA, Qz, Qe, Qm, QD, QL, QU0, QU1, QU2, QU3, QU4, QV0, QV1, QV2, QV3, QV4⟩
  have hb0_ := hall 0 (by kernel_rfl)
  have hb1_ := hall 1 (by kernel_rfl)
  have hb2_ := hall 2 (by kernel_rfl)
  have hb3_ := hall 3 (by kernel_rfl)
  have hb4_ := hall 4 (by kernel_rfl)
  have hb5_ := hall 5 (by kernel_rfl)
  have hb6_ := hall 6 (by kernel_rfl)
  have hb7_ := hall 7 (by kernel_rfl)
  have hb8_ := hall 8 (by kernel_rfl)
  have hb9_ := hall 9 (by kernel_rfl)
  have hb10_ := hall 10 (by kernel_rfl)
  have hb11_ := hall 11 (by kernel_rfl)
  have hb12_ := hall 12 (by kernel_rfl)
  have hb13_ := hall 13 (by kernel_rfl)
  have hb14_ := hall 14 (by kernel_rfl)
  have hb15_ := hall 15 (by kernel_rfl)
  have hb16_ := hall 16 (by kernel_rfl)
  have hb17_ := hall 17 (by kernel_rfl)
  have hb18_ := hall 18 (by kernel_rfl)
  have hb19_ := hall 19 (by kernel_rfl)
  have hb20_ := hall 20 (by kernel_rfl)
  have hb21_ := hall 21 (by kernel_rfl)
  subst ha
  obtain rfl := Qm hb20_
  simp only [putSel, hb0_, hb1_, hb2_, hb3_, hb4_, hb5_, hb6_, hb7_, hb8_, hb9_, hb10_, hb11_, hb12_, hb13_, hb14_, hb15_, hb16_, hb17_, hb18_, hb19_, hb20_, hb21_, if_true, Act.put, List.setIfInBounds_toArray, List.set_cons_zero, List.set_cons_succ]
  have HV0 := Aside0.mk (QV0 hb3_)
  have HV1 := Aside0.mk (QV1 hb7_)
  have HV2 := Aside0.mk (QV2 hb11_)
  have HV3 := Aside0.mk (QV3 hb15_)
  have HV4 := Aside0.mk (QV4 hb19_)
  have BKf := Aside0.mk (Qe hb21_)
  have HBf := Aside0.mk HB
  have HDf := Aside0.mk QD
  clear QA QU0 QU1 QU2 QU3 QU4 Qz Qe Qm QD QL HB QV0 QV1 QV2 QV3 QV4 hall hb0_ hb1_ hb2_ hb3_ hb4_ hb5_ hb6_ hb7_ hb8_ hb9_ hb10_ hb11_ hb12_ hb13_ hb14_ hb15_ hb16_ hb17_ hb18_ hb19_ hb20_ hb21_
  try go_wp2
  refine bodyPost_ret (results_cell_row rfl _ _ g2 25 #[v0, v1, v2, v3, v4] (0, 0) _ rfl BKf.out Try.underlying25 rfl (by kernel_rfl)) rfl ?_
  have o0 := HV0.out.1
  have o1 := HV1.out.1
  have o2 := HV2.out.1
  have o3 := HV3.out.1
  have o4 := HV4.out.1
  exact ⟨v0, v1, v2, v3, v4, rfl, R_raise HV0.out (fun k hk => ⟨Kd.R_base HV0.out k hk, (fun e_ => absurd (HDf.out 0 1 k (o0 k hk) (o1 k e_.symm)) (by decide))⟩), R_raise HV1.out (fun k hk => ⟨Kd.R_base HV1.out k hk, (fun e_ => absurd (HDf.out 1 0 k (o1 k hk) (o0 k e_.symm)) (by decide))⟩), R_raise HV2.out (fun k hk => ⟨Kd.R_base HV2.out k hk, ⟨(fun e_ => absurd (HDf.out 2 3 k (o2 k hk) (o3 k e_.symm)) (by decide)), (fun e_ => absurd (HDf.out 2 4 k (o2 k hk) (o4 k e_.symm)) (by decide))⟩⟩), R_raise HV3.out (fun k hk => ⟨Kd.R_base HV3.out k hk, ⟨(fun e_ => absurd (HDf.out 3 2 k (o3 k hk) (o2 k e_.symm)) (by decide)), (fun e_ => absurd (HDf.out 3 4 k (o3 k hk) (o4 k e_.symm)) (by decide))⟩⟩), R_raise HV4.out (fun k hk => ⟨Kd.R_base HV4.out k hk, ⟨(fun e_ => absurd (HDf.out 4 2 k (o4 k hk) (o2 k e_.symm)) (by decide)), (fun e_ => absurd (HDf.out 4 3 k (o4 k hk) (o3 k e_.symm)) (by decide))⟩⟩), HBf.out⟩
end Go.Proofs.Ytolmblfffnnabaa.P
namespace Go.Proofs.Ytolmblfffnnabaa.P
open Go.RowKit Go.Proofs.YtolmblfffnnabaaW.PrintWords Go.Proofs.YtolmblfffnnabaaW.PrintLast Go.Proofs.YtolmblfffnnabaaW.PrintMore
set_option linter.unusedVariables false
set_option linter.unusedSimpArgs false
def slices_Clone_int_int.f (l0 : List Int) : Option (List Int) := if l0.length < 17592186044416 then some l0 else none
set_option maxHeartbeats 1000000 in
set_option maxRecDepth 100000 in
theorem slices_Clone_int_int.calls (A0 : Option Addr) (c0 : Nat) (l0 : List Int) (r : List Int) (w : World) (hr0 : Kd.C (Kd.int .i64) w A0 l0.length l0) (hc0 : l0.length ≤ c0) (h : slices_Clone_int_int.f l0 = some r) :
    Calls Try.prog 65 #[.slice A0 l0.length c0] w fun e w' => ∃ v0_ : Value, e = .returned (v0_) ∧ Kd.R (Kd.int .i64) 3 w' w.heap.size (fun _ => True) v0_ r ∧ Below w.heap.size w w' := by
  unfold slices_Clone_int_int.f at h
  by_cases hl : l0.length < 17592186044416
  · rw [if_pos hl] at h
    obtain rfl := Option.some.inj h
    clear h
    have hu := Try.underlying23
    have heq := fun (W : World) (A : Option Addr) (n c : Nat) => Lib.run_eql_slice_nil (P := Try.prog) W 23 3 A n c 0 0 hu
    have HR := Aside0.mk hr0
    have HL := Aside0.mk hl
    clear hl
    cases A0 with
    | none =>
      have hl0 : l0 = [] := by
        rcases Nat.eq_zero_or_pos l0.length with h0 | h0
        · exact List.eq_nil_of_length_eq_zero h0
        · obtain ⟨ad, h, _⟩ := hr0.2.2 h0
          cases h
      subst hl0
      clear hr0
      go_enter Try.func65, Try.ntmps65
      go_wp2
      go_ret
      exact ⟨_, rfl, Kd.R_nil _ _ _ _ _, Below.refl _ _⟩
    | some a0 =>
      clear hr0
      go_enter Try.func65, Try.ntmps65
      go_wp2_with (first | ((with_reducible refine gate_dst (N := 5) rfl ?_); refine Kd.R_lit (Kd.int .i64) w.heap.size 3 ?hg (N := 5) ?hd (xs := ([] : List Int)) (inner := []) (ok := fun _ => True) (okp := fun _ => True) (w0 := w) ?hr ?hp (fun _ _ => trivial) trivial (Below.refl _ _) (Nat.le_refl _) (by simp) ?_; (case hd => rfl); (case hg => rfl); (case hr => first | (go_simp; done) | (go_simp; rfl)); (case hp => exact ⟨rfl, fun j p hj => by simp at hj⟩); intro v1 w1 ho1 hb1 hg1 hat1; have HO1 := Aside0.mk ho1; have HB1 := Aside0.mk hb1; obtain ⟨Ax, cx, rfl⟩ := Kd.R_slice ho1; clear ho1 hb1 hg1 hat1) | ((with_reducible refine gate_dst (N := 7) rfl ?_); refine Kd.R_append_row (Value.int .i64) (0 : Int) (w0 := w) w.heap.size ?hg _ _ 23 3 _ _ rfl hu info3 rfl (by decide) _ ([] : List Int) l0 (some a0) l0.length c0 (fun _ => True) rfl rfl (fun _ _ => trivial) HO1.out (Kd.C_below HR.out HB1.out) HB1.out HB1.out.size (by have := HL.out; simp; omega) ?_; (case hg => rfl); intro v2 w2 ho2 hb2 _ _; have HO2 := Aside0.mk ho2; have HB2 := Aside0.mk hb2; clear ho2 hb2))
      go_ret
      exact ⟨_, rfl, HO2.out, HB2.out⟩
  · rw [if_neg hl] at h
    cases h
end Go.Proofs.Ytolmblfffnnabaa.P
namespace Go.Proofs.Ytolmblfffnnabaa.P
open Go.RowKit Go.Proofs.YtolmblfffnnabaaW.PrintWords Go.Proofs.YtolmblfffnnabaaW.PrintLast Go.Proofs.YtolmblfffnnabaaW.PrintMore
set_option linter.unusedVariables false
set_option linter.unusedSimpArgs false
def slices_Clone_string_string.f (l0 : List ByteArray) : Option (List ByteArray) := if l0.length < 8796093022208 then some l0 else none
set_option maxHeartbeats 1000000 in
set_option maxRecDepth 100000 in
theorem slices_Clone_string_string.calls (A0 : Option Addr) (c0 : Nat) (l0 : List ByteArray) (r : List ByteArray) (w : World) (hr0 : Kd.C Kd.string w A0 l0.length l0) (hc0 : l0.length ≤ c0) (h : slices_Clone_string_string.f l0 = some r) :
    Calls Try.prog 64 #[.slice A0 l0.length c0] w fun e w' => ∃ v0_ : Value, e = .returned (v0_) ∧ Kd.R Kd.string 9 w' w.heap.size (fun _ => True) v0_ r ∧ Below w.heap.size w w' := by
  unfold slices_Clone_string_string.f at h
  by_cases hl : l0.length < 8796093022208
  · rw [if_pos hl] at h
    obtain rfl := Option.some.inj h
    clear h
    have hu := Try.underlying22
    have heq := fun (W : World) (A : Option Addr) (n c : Nat) => Lib.run_eql_slice_nil (P := Try.prog) W 22 9 A n c 0 0 hu
    have HR := Aside0.mk hr0
    have HL := Aside0.mk hl
    clear hl
    cases A0 with
    | none =>
      have hl0 : l0 = [] := by
        rcases Nat.eq_zero_or_pos l0.length with h0 | h0
        · exact List.eq_nil_of_length_eq_zero h0
        · obtain ⟨ad, h, _⟩ := hr0.2.2 h0
          cases h
      subst hl0
      clear hr0
      go_enter Try.func64, Try.ntmps64
      go_wp2
      go_ret
      exact ⟨_, rfl, Kd.R_nil _ _ _ _ _, Below.refl _ _⟩
    | some a0 =>
      clear hr0
      go_enter Try.func64, Try.ntmps64
      go_wp2_with (first | ((with_reducible refine gate_dst (N := 5) rfl ?_); refine Kd.R_lit Kd.string w.heap.size 9 ?hg (N := 5) ?hd (xs := ([] : List ByteArray)) (inner := []) (ok := fun _ => True) (okp := fun _ => True) (w0 := w) ?hr ?hp (fun _ _ => trivial) trivial (Below.refl _ _) (Nat.le_refl _) (by simp) ?_; (case hd => rfl); (case hg => rfl); (case hr => first | (go_simp; done) | (go_simp; rfl)); (case hp => exact ⟨rfl, fun j p hj => by simp at hj⟩); intro v1 w1 ho1 hb1 hg1 hat1; have HO1 := Aside0.mk ho1; have HB1 := Aside0.mk hb1; obtain ⟨Ax, cx, rfl⟩ := Kd.R_slice ho1; clear ho1 hb1 hg1 hat1) | ((with_reducible refine gate_dst (N := 7) rfl ?_); refine Kd.R_append_row Value.string ByteArray.empty (w0 := w) w.heap.size ?hg _ _ 22 9 _ _ rfl hu info9 rfl (by decide) _ ([] : List ByteArray) l0 (some a0) l0.length c0 (fun _ => True) rfl rfl (fun _ _ => trivial) HO1.out (Kd.C_below HR.out HB1.out) HB1.out HB1.out.size (by have := HL.out; simp; omega) ?_; (case hg => rfl); intro v2 w2 ho2 hb2 _ _; have HO2 := Aside0.mk ho2; have HB2 := Aside0.mk hb2; clear ho2 hb2))
      go_ret
      exact ⟨_, rfl, HO2.out, HB2.out⟩
  · rw [if_neg hl] at h
    cases h
end Go.Proofs.Ytolmblfffnnabaa.P
namespace Go.Proofs.Ytolmblfffnnabaa.P
open Go.RowKit Go.Proofs.YtolmblfffnnabaaW.PrintWords Go.Proofs.YtolmblfffnnabaaW.PrintLast Go.Proofs.YtolmblfffnnabaaW.PrintMore
attribute [local go_sem] max2_int min2_int max_two min_two max_three min_three max_four min_four   
set_option linter.unusedVariables false
set_option linter.unusedSimpArgs false
def impl_again.f (l0_0 : List ByteArray) (l0_1 : List ByteArray) (l0_2 : List Int) (l0_3 : List Int) (l0_4 : List Int) : Option (List ByteArray × List ByteArray × List Int × List Int × List Int) := (slices_Clone_string_string.f l0_0).bind fun t605 => ((slices_Clone_string_string.f l0_1).bind fun t608 => ((slices_Clone_int_int.f l0_2).bind fun t611 => ((slices_Clone_int_int.f l0_3).bind fun t614 => ((slices_Clone_int_int.f l0_4).bind fun t617 => (some (t605, t608, t611, t614, t617))))))
def impl_again.T1 : Bool × List (List Nat × List Nat) := (true, [([], []), ([0], [0]), ([1], [1]), ([], []), ([3], [3]), ([4, 2], [4]), ([], []), ([6], [6]), ([7, 5], [7]), ([], []), ([9], [9]), ([10, 8], [10]), ([], []), ([12], [12]), ([13, 11], [13]), ([2, 5, 8, 11, 14], [2, 5, 8, 11, 14]), ([15, 14, 0, 1, 2, 3, 4, 5, 6, 7, 8, 9, 10, 11, 12, 13, 14, 15], [15])])
def impl_again.B1 : List Nat := [0, 1, 3, 0, 8, 31, 0, 64, 255, 0, 512, 2047, 0, 4096, 16383, 32767, 65535]
theorem impl_again.tab1 : rtab .any (opsOf Try.f63 1) = impl_again.T1 := by kernel_rfl
theorem impl_again.bits1 : waitsOk impl_again.T1.2 impl_again.B1 = true := by kernel_rfl
set_option maxHeartbeats 8000000 in
set_option maxRecDepth 100000 in
theorem impl_again.calls (A0_0 : Option Addr) (c0_0 : Nat) (l0_0 : List ByteArray) (A0_1 : Option Addr) (c0_1 : Nat) (l0_1 : List ByteArray) (A0_2 : Option Addr) (c0_2 : Nat) (l0_2 : List Int) (A0_3 : Option Addr) (c0_3 : Nat) (l0_3 : List Int) (A0_4 : Option Addr) (c0_4 : Nat) (l0_4 : List Int) (r1 : List ByteArray) (r2 : List ByteArray) (r3 : List Int) (r4 : List Int) (r5 : List Int) (w : World) (hr0_0 : Kd.C Kd.string w A0_0 l0_0.length l0_0) (hc0_0 : l0_0.length ≤ c0_0) (hr0_1 : Kd.C Kd.string w A0_1 l0_1.length l0_1) (hc0_1 : l0_1.length ≤ c0_1) (hr0_2 : Kd.C (Kd.int .i64) w A0_2 l0_2.length l0_2) (hc0_2 : l0_2.length ≤ c0_2) (hr0_3 : Kd.C (Kd.int .i64) w A0_3 l0_3.length l0_3) (hc0_3 : l0_3.length ≤ c0_3) (hr0_4 : Kd.C (Kd.int .i64) w A0_4 l0_4.length l0_4) (hc0_4 : l0_4.length ≤ c0_4) (h : impl_again.f l0_0 l0_1 l0_2 l0_3 l0_4 = some (r1, r2, r3, r4, r5)) :
    Calls Try.prog 63 #[.agg #[.slice A0_0 l0_0.length c0_0, .slice A0_1 l0_1.length c0_1, .slice A0_2 l0_2.length c0_2, .slice A0_3 l0_3.length c0_3, .slice A0_4 l0_4.length c0_4]] w fun e w' => ∃ v0_ v1_ v2_ v3_ v4_ : Value, e = .returned (.agg #[v0_, v1_, v2_, v3_, v4_]) ∧ Kd.R Kd.string 9 w' w.heap.size (fun k_ => some k_ ≠ (v1_ : Value).ownBlock) v0_ r1 ∧ Kd.R Kd.string 9 w' w.heap.size (fun k_ => some k_ ≠ (v0_ : Value).ownBlock) v1_ r2 ∧ Kd.R (Kd.int .i64) 3 w' w.heap.size (fun k_ => some k_ ≠ (v3_ : Value).ownBlock ∧ some k_ ≠ (v4_ : Value).ownBlock) v2_ r3 ∧ Kd.R (Kd.int .i64) 3 w' w.heap.size (fun k_ => some k_ ≠ (v2_ : Value).ownBlock ∧ some k_ ≠ (v4_ : Value).ownBlock) v3_ r4 ∧ Kd.R (Kd.int .i64) 3 w' w.heap.size (fun k_ => some k_ ≠ (v2_ : Value).ownBlock ∧ some k_ ≠ (v3_ : Value).ownBlock) v4_ r5 ∧ Below w.heap.size w w' := by
  have hu25 := Try.underlying25
  have HR0_0 := Aside0.mk hr0_0
  have HC0_0 := Aside0.mk hc0_0
  clear hr0_0 hc0_0
  have HR0_1 := Aside0.mk hr0_1
  have HC0_1 := Aside0.mk hc0_1
  clear hr0_1 hc0_1
  have HR0_2 := Aside0.mk hr0_2
  have HC0_2 := Aside0.mk hc0_2
  clear hr0_2 hc0_2
  have HR0_3 := Aside0.mk hr0_3
  have HC0_3 := Aside0.mk hc0_3
  clear hr0_3 hc0_3
  have HR0_4 := Aside0.mk hr0_4
  have HC0_4 := Aside0.mk hc0_4
  clear hr0_4 hc0_4
  have HB := Aside0.mk (Below.refl w.heap.size w)
  have H : ((slices_Clone_string_string.f l0_0).bind fun t605 => ((slices_Clone_string_string.f l0_1).bind fun t608 => ((slices_Clone_int_int.f l0_2).bind fun t611 => ((slices_Clone_int_int.f l0_3).bind fun t614 => ((slices_Clone_int_int.f l0_4).bind fun t617 => (some (t605, t608, t611, t614, t617))))))) = some (r1, r2, r3, r4, r5) := h
  clear h
  replace H := Option.bind_eq_some_iff.mp H
  obtain ⟨t605, A20, H⟩ := H
  replace H : ((slices_Clone_string_string.f l0_1).bind fun t608 => ((slices_Clone_int_int.f l0_2).bind fun t611 => ((slices_Clone_int_int.f l0_3).bind fun t614 => ((slices_Clone_int_int.f l0_4).bind fun t617 => (some (t605, t608, t611, t614, t617)))))) = some (r1, r2, r3, r4, r5) := H
  have A2 := Aside0.mk A20
  clear A20
  replace H := Option.bind_eq_some_iff.mp H
  obtain ⟨t608, A30, H⟩ := H
  replace H : ((slices_Clone_int_int.f l0_2).bind fun t611 => ((slices_Clone_int_int.f l0_3).bind fun t614 => ((slices_Clone_int_int.f l0_4).bind fun t617 => (some (t605, t608, t611, t614, t617))))) = some (r1, r2, r3, r4, r5) := H
  have A3 := Aside0.mk A30
  clear A30
  replace H := Option.bind_eq_some_iff.mp H
  obtain ⟨t611, A40, H⟩ := H
  replace H : ((slices_Clone_int_int.f l0_3).bind fun t614 => ((slices_Clone_int_int.f l0_4).bind fun t617 => (some (t605, t608, t611, t614, t617)))) = some (r1, r2, r3, r4, r5) := H
  have A4 := Aside0.mk A40
  clear A40
  replace H := Option.bind_eq_some_iff.mp H
  obtain ⟨t614, A50, H⟩ := H
  replace H : ((slices_Clone_int_int.f l0_4).bind fun t617 => (some (t605, t608, t611, t614, t617))) = some (r1, r2, r3, r4, r5) := H
  have A5 := Aside0.mk A50
  clear A50
  replace H := Option.bind_eq_some_iff.mp H
  obtain ⟨t617, A60, H⟩ := H
  replace H : (some (t605, t608, t611, t614, t617)) = some (r1, r2, r3, r4, r5) := H
  have A6 := Aside0.mk A60
  clear A60
  simp only [Option.some.injEq, Prod.mk.injEq] at H
  obtain ⟨rfl, rfl, rfl, rfl, rfl⟩ := H
  go_enter Try.func63, Try.ntmps63
  try go_wp2_with (first | ((with_reducible refine gate_dst (N := 1) rfl ?_); refine box_event ?hg (N := 1) ?hd (cs := #[.slice A0_0 l0_0.length c0_0, .slice A0_1 l0_1.length c0_1, .slice A0_2 l0_2.length c0_2, .slice A0_3 l0_3.length c0_3, .slice A0_4 l0_4.length c0_4]) (t := 25) ?hr ?_; (case hd => rfl); (case hg => rfl); (case hr => first | (go_simp; done) | (go_simp; rfl)); intro gb603 hg w7 hbox hb; have n0_ := Aside0.mk (below_step (by repeat (first | (with_reducible first | exact HB.out | apply below_alloc | apply pw_below_drewN | apply below_drew1) | exact HB.out)) hb); have n1_ := Aside0.mk (hbox); have n2_ := Aside0.mk ((by rw [hg]; exact (below_size (by repeat (first | (with_reducible first | exact HB.out | apply below_alloc | apply pw_below_drewN | apply below_drew1) | exact HB.out))) : w.heap.size ≤ gb603)); have n3_ := Aside0.mk ((by rw [hg]; exact (below_size (by repeat (first | (with_reducible first | exact HB.out | apply below_alloc | apply pw_below_drewN | apply below_drew1) | exact HB.out))) : w.heap.size ≤ gb603)); clear HB; have HB := n0_; have BK603 := n1_; have GW603 := n2_; have GE603 := n3_; clear n0_ n1_ n2_ n3_; clear hb hbox hg) | ((with_reducible refine gate_dst (N := 2) rfl ?_); refine box_event ?hg (N := 2) ?hd (cs := #[.slice none 0 0, .slice none 0 0, .slice none 0 0, .slice none 0 0, .slice none 0 0]) (t := 25) ?hr ?_; (case hd => rfl); (case hg => rfl); (case hr => first | (go_simp; done) | (go_simp; rfl)); intro gb604 hg w8 hbox hb; have n0_ := Aside0.mk (blk_below (g := gb603) (o := .cells #[.slice A0_0 l0_0.length c0_0, .slice A0_1 l0_1.length c0_1, .slice A0_2 l0_2.length c0_2, .slice A0_3 l0_3.length c0_3, .slice A0_4 l0_4.length c0_4] 25 (0, 0)) (by (with_reducible repeat (first | refine blk_drewN ?_ _ | refine blk_drew ?_ | refine blk_alloc ?_ _)); exact BK603.out) hb); have n1_ := Aside0.mk (below_step (by repeat (first | (with_reducible first | exact HB.out | apply below_alloc | apply pw_below_drewN | apply below_drew1 | refine below_set ?_ GE603.out) | exact HB.out)) hb); have n2_ := Aside0.mk (hbox); have n3_ := Aside0.mk ((by rw [hg]; exact (below_size (by repeat (first | (with_reducible first | exact HB.out | apply below_alloc | apply pw_below_drewN | apply below_drew1 | refine below_set ?_ GE603.out) | exact HB.out))) : w.heap.size ≤ gb604)); have n4_ := Aside0.mk ((by rw [hg]; exact (below_size (by repeat (first | (with_reducible first | exact HB.out | apply below_alloc | apply pw_below_drewN | apply below_drew1 | refine below_set ?_ GE603.out) | exact HB.out))) : w.heap.size ≤ gb604)); have n5_ := Aside0.mk ((by rw [hg]; exact Nat.ne_of_lt (blk_lt (g := gb603) (o := .cells #[.slice A0_0 l0_0.length c0_0, .slice A0_1 l0_1.length c0_1, .slice A0_2 l0_2.length c0_2, .slice A0_3 l0_3.length c0_3, .slice A0_4 l0_4.length c0_4] 25 (0, 0)) (by (with_reducible repeat (first | refine blk_drewN ?_ _ | refine blk_drew ?_ | refine blk_alloc ?_ _)); exact BK603.out)) : gb603 ≠ gb604)); have n6_ := Aside0.mk ((by rw [hg]; exact Nat.ne_of_gt (blk_lt (g := gb603) (o := .cells #[.slice A0_0 l0_0.length c0_0, .slice A0_1 l0_1.length c0_1, .slice A0_2 l0_2.length c0_2, .slice A0_3 l0_3.length c0_3, .slice A0_4 l0_4.length c0_4] 25 (0, 0)) (by (with_reducible repeat (first | refine blk_drewN ?_ _ | refine blk_drew ?_ | refine blk_alloc ?_ _)); exact BK603.out)) : gb604 ≠ gb603)); clear BK603; clear HB; have BK603 := n0_; have HB := n1_; have BK604 := n2_; have GW604 := n3_; have GE604 := n4_; have NB603_604 := n5_; have NB604_603 := n6_; clear n0_ n1_ n2_ n3_ n4_ n5_ n6_; clear hb hbox hg))
  have n0_ := Aside0.mk (blk_drew BK603.out)
  have n1_ := Aside0.mk (blk_drew BK604.out)
  have n2_ := Aside0.mk (below_drew1 HB.out)
  clear BK603
  clear BK604
  clear HB
  have BK603 := n0_
  have BK604 := n1_
  have HB := n2_
  clear n0_ n1_ n2_
  refine start_ (n := 17) (S := fun w' => w'.cell? ⟨gb603, 0, none⟩ = some (.slice A0_0 l0_0.length c0_0) ∧ w'.cell? ⟨gb603, 1, none⟩ = some (.slice A0_1 l0_1.length c0_1) ∧ w'.cell? ⟨gb603, 2, none⟩ = some (.slice A0_2 l0_2.length c0_2) ∧ w'.cell? ⟨gb603, 3, none⟩ = some (.slice A0_3 l0_3.length c0_3) ∧ w'.cell? ⟨gb603, 4, none⟩ = some (.slice A0_4 l0_4.length c0_4)) (ds := []) #[false, false, false, false, false, false, false, false, false, false, false, false, false, false, false, false, false] (by kernel_rfl) rfl rfl ⟨(blk_cell BK603.out 0).trans rfl, (blk_cell BK603.out 1).trans rfl, (blk_cell BK603.out 2).trans rfl, (blk_cell BK603.out 3).trans rfl, (blk_cell BK603.out 4).trans rfl⟩ (fun hHeld => ?_); refine with_tabW impl_again.tab1 impl_again.bits1 (fun HT_ HW_ => ?_)
  generalize w8.drew = w9 at BK603 BK604 HB hHeld ⊢
  refine pure_ (i := 0) (N := some 3) (v := ?_) (a' := ?_) #[true, false, false, false, false, false, false, false, false, false, false, false, false, false, false, false, false] rfl rfl (any_of HT_.out (by kernel_rfl)) (fun _ _ _ h => h) (Or.inl ⟨by rfl, ?_⟩) ?_ ?_
  rotate_left
  · intro w'
    go_simp
    with_reducible rfl
  rotate_left
  · simp only [Act.put, List.setIfInBounds_toArray, List.set_cons_zero, List.set_cons_succ, i64_w, i32_w]
    rfl
  refine pure_ (i := 3) (N := some 6) (v := ?_) (a' := ?_) #[true, false, false, true, false, false, false, false, false, false, false, false, false, false, false, false, false] rfl rfl (any_of HT_.out (by kernel_rfl)) (fun _ _ _ h => h) (Or.inl ⟨by rfl, ?_⟩) ?_ ?_
  rotate_left
  · intro w'
    go_simp
    with_reducible rfl
  rotate_left
  · simp only [Act.put, List.setIfInBounds_toArray, List.set_cons_zero, List.set_cons_succ, i64_w, i32_w]
    rfl
  refine pure_ (i := 6) (N := some 9) (v := ?_) (a' := ?_) #[true, false, false, true, false, false, true, false, false, false, false, false, false, false, false, false, false] rfl rfl (any_of HT_.out (by kernel_rfl)) (fun _ _ _ h => h) (Or.inl ⟨by rfl, ?_⟩) ?_ ?_
  rotate_left
  · intro w'
    go_simp
    with_reducible rfl
  rotate_left
  · simp only [Act.put, List.setIfInBounds_toArray, List.set_cons_zero, List.set_cons_succ, i64_w, i32_w]
    rfl
  refine pure_ (i := 9) (N := some 12) (v := ?_) (a' := ?_) #[true, false, false, true, false, false, true, false, false, true, false, false, false, false, false, false, false] rfl rfl (any_of HT_.out (by kernel_rfl)) (fun _ _ _ h => h) (Or.inl ⟨by rfl, ?_⟩) ?_ ?_
  rotate_left
  · intro w'
    go_simp
    with_reducible rfl
  rotate_left
  · simp only [Act.put, List.setIfInBounds_toArray, List.set_cons_zero, List.set_cons_succ, i64_w, i32_w]
    rfl
  refine pure_ (i := 12) (N := some 15) (v := ?_) (a' := ?_) #[true, false, false, true, false, false, true, false, false, true, false, false, true, false, false, false, false] rfl rfl (any_of HT_.out (by kernel_rfl)) (fun _ _ _ h => h) (Or.inl ⟨by rfl, ?_⟩) ?_ ?_
  rotate_left
  · intro w'
    go_simp
    with_reducible rfl
  rotate_left
  · simp only [Act.put, List.setIfInBounds_toArray, List.set_cons_zero, List.set_cons_succ, i64_w, i32_w]
    rfl
  refine take_ (i := 1) (N := some 4) (v := ?_) (a' := ?_) #[true, true, false, true, false, false, true, false, false, true, false, false, true, false, false, false, false] rfl rfl (take_ofW HT_.out HW_.out (by kernel_rfl)) (fun _ _ _ h => h) (Or.inl ⟨by rfl, ?_⟩) hHeld ?_ ?_
  rotate_left
  · rintro w' ⟨s0, s1, s2, s3, s4⟩
    go_simp
    with_reducible rfl
  rotate_left
  · simp only [Act.put, List.setIfInBounds_toArray, List.set_cons_zero, List.set_cons_succ, i64_w, i32_w]
    rfl
  refine take_ (i := 4) (N := some 7) (v := ?_) (a' := ?_) #[true, true, false, true, true, false, true, false, false, true, false, false, true, false, false, false, false] rfl rfl (take_ofW HT_.out HW_.out (by kernel_rfl)) (fun _ _ _ h => h) (Or.inl ⟨by rfl, ?_⟩) hHeld ?_ ?_
  rotate_left
  · rintro w' ⟨s0, s1, s2, s3, s4⟩
    go_simp
    with_reducible rfl
  rotate_left
  · simp only [Act.put, List.setIfInBounds_toArray, List.set_cons_zero, List.set_cons_succ, i64_w, i32_w]
    rfl
  refine take_ (i := 7) (N := some 10) (v := ?_) (a' := ?_) #[true, true, false, true, true, false, true, true, false, true, false, false, true, false, false, false, false] rfl rfl (take_ofW HT_.out HW_.out (by kernel_rfl)) (fun _ _ _ h => h) (Or.inl ⟨by rfl, ?_⟩) hHeld ?_ ?_
  rotate_left
  · rintro w' ⟨s0, s1, s2, s3, s4⟩
    go_simp
    with_reducible rfl
  rotate_left
  · simp only [Act.put, List.setIfInBounds_toArray, List.set_cons_zero, List.set_cons_succ, i64_w, i32_w]
    rfl
  refine take_ (i := 10) (N := some 13) (v := ?_) (a' := ?_) #[true, true, false, true, true, false, true, true, false, true, true, false, true, false, false, false, false] rfl rfl (take_ofW HT_.out HW_.out (by kernel_rfl)) (fun _ _ _ h => h) (Or.inl ⟨by rfl, ?_⟩) hHeld ?_ ?_
  rotate_left
  · rintro w' ⟨s0, s1, s2, s3, s4⟩
    go_simp
    with_reducible rfl
  rotate_left
  · simp only [Act.put, List.setIfInBounds_toArray, List.set_cons_zero, List.set_cons_succ, i64_w, i32_w]
    rfl
  refine take_ (i := 13) (N := some 16) (v := ?_) (a' := ?_) #[true, true, false, true, true, false, true, true, false, true, true, false, true, true, false, false, false] rfl rfl (take_ofW HT_.out HW_.out (by kernel_rfl)) (fun _ _ _ h => h) (Or.inl ⟨by rfl, ?_⟩) hHeld ?_ ?_
  rotate_left
  · rintro w' ⟨s0, s1, s2, s3, s4⟩
    go_simp
    with_reducible rfl
  rotate_left
  · simp only [Act.put, List.setIfInBounds_toArray, List.set_cons_zero, List.set_cons_succ, i64_w, i32_w]
    rfl
  refine one_ (i := 2) (N := some 5) #[true, true, true, true, true, false, true, true, false, true, true, false, true, true, false, false, false] rfl rfl (one_of HT_.out (by kernel_rfl)) (by decide) (fun K hK => ?_)
  refine goes_ Try.func64 (by kernel_rfl) rfl #[.slice A0_0 l0_0.length c0_0] (by rfl) rfl rfl (by (try simp only [List.map_toArray, List.map_cons, List.map_nil]); first | done | rfl | (simp only [List.length_drop, List.length_take]; rfl)) ?_
  with_reducible refine (slices_Clone_string_string.calls _ _ l0_0 t605 _ ?side1 ?side2 A2.out).mono ?_
  (case side1 => repeat (first | exact (Kd.C_below HR0_0.out HB.out) | (with_reducible refine Kd.C_alloc ?_ _) | (with_reducible refine Kd.C_drewN ?_ _) | (with_reducible refine Kd.C_drew ?_)))
  (case side2 => exact HC0_0.out)
  rintro e w10 ⟨v606, rfl, ho0, hb⟩
  refine ⟨_, rfl, ?_⟩
  have n0_ := Aside0.mk (Kd.R_lower ho0 (below_size (by repeat (first | (with_reducible first | exact HB.out | apply below_alloc | apply pw_below_drewN | apply below_drew1 | refine below_set ?_ GE603.out | refine below_set ?_ GE604.out) | exact HB.out))))
  have n1_ := Aside0.mk (blk_below (g := gb603) (o := .cells #[.slice A0_0 l0_0.length c0_0, .slice A0_1 l0_1.length c0_1, .slice A0_2 l0_2.length c0_2, .slice A0_3 l0_3.length c0_3, .slice A0_4 l0_4.length c0_4] 25 (0, 0)) (by (with_reducible repeat (first | refine blk_drewN ?_ _ | refine blk_drew ?_ | refine blk_alloc ?_ _)); exact BK603.out) hb)
  have n2_ := Aside0.mk (blk_below (g := gb604) (o := .cells #[.slice none 0 0, .slice none 0 0, .slice none 0 0, .slice none 0 0, .slice none 0 0] 25 (0, 0)) (by (with_reducible repeat (first | refine blk_drewN ?_ _ | refine blk_drew ?_ | refine blk_alloc ?_ _)); exact BK604.out) hb)
  have n3_ := Aside0.mk (below_step (by repeat (first | (with_reducible first | exact HB.out | apply below_alloc | apply pw_below_drewN | apply below_drew1 | refine below_set ?_ GE603.out | refine below_set ?_ GE604.out) | exact HB.out)) hb)
  clear BK603
  clear BK604
  clear HB
  have HO607 := n0_
  have BK603 := n1_
  have BK604 := n2_
  have HB := n3_
  clear n0_ n1_ n2_ n3_
  (try clear hb)
  (try clear hb2)
  (try clear hk)
  (try clear hi)
  (try clear ho0)
  refine hK.out _ _ ⟨(blk_cell BK603.out 0).trans rfl, (blk_cell BK603.out 1).trans rfl, (blk_cell BK603.out 2).trans rfl, (blk_cell BK603.out 3).trans rfl, (blk_cell BK603.out 4).trans rfl⟩ (fun hHeld => ?_)
  clear hK K
  refine norm_ (a' := ?_) ?_ ?_
  rotate_left
  · show Act.put _ (some 5) _ = _
    simp only [Act.put, List.setIfInBounds_toArray, List.set_cons_zero, List.set_cons_succ, i64_w, i32_w]
    rfl
  refine one_ (i := 5) (N := some 8) #[true, true, true, true, true, true, true, true, false, true, true, false, true, true, false, false, false] rfl rfl (one_of HT_.out (by kernel_rfl)) (by decide) (fun K hK => ?_)
  refine goes_ Try.func64 (by kernel_rfl) rfl #[.slice A0_1 l0_1.length c0_1] (by rfl) rfl rfl (by (try simp only [List.map_toArray, List.map_cons, List.map_nil]); first | done | rfl | (simp only [List.length_drop, List.length_take]; rfl)) ?_
  with_reducible refine (slices_Clone_string_string.calls _ _ l0_1 t608 _ ?side1 ?side2 A3.out).mono ?_
  (case side1 => repeat (first | exact (Kd.C_below HR0_1.out HB.out) | (with_reducible refine Kd.C_alloc ?_ _) | (with_reducible refine Kd.C_drewN ?_ _) | (with_reducible refine Kd.C_drew ?_)))
  (case side2 => exact HC0_1.out)
  rintro e w11 ⟨v609, rfl, ho0, hb⟩
  refine ⟨_, rfl, ?_⟩
  have n0_ := Aside0.mk (Kd.R_elder' (by (with_reducible repeat (first | apply Kd.R_alloc | apply Kd.R_drewN | apply Kd.R_drew)); exact HO607.out) (Kd.R_base ho0) hb)
  have n1_ := Aside0.mk (Kd.R_lower (Kd.R_new' ho0 (Kd.R_lt (by (with_reducible repeat (first | apply Kd.R_alloc | apply Kd.R_drewN | apply Kd.R_drew)); exact HO607.out))) (below_size (by repeat (first | (with_reducible first | exact HB.out | apply below_alloc | apply pw_below_drewN | apply below_drew1 | refine below_set ?_ GE603.out | refine below_set ?_ GE604.out) | exact HB.out))))
  have n2_ := Aside0.mk (blk_below (g := gb603) (o := .cells #[.slice A0_0 l0_0.length c0_0, .slice A0_1 l0_1.length c0_1, .slice A0_2 l0_2.length c0_2, .slice A0_3 l0_3.length c0_3, .slice A0_4 l0_4.length c0_4] 25 (0, 0)) (by (with_reducible repeat (first | refine blk_drewN ?_ _ | refine blk_drew ?_ | refine blk_alloc ?_ _)); exact BK603.out) hb)
  have n3_ := Aside0.mk (blk_below (g := gb604) (o := .cells #[.slice none 0 0, .slice none 0 0, .slice none 0 0, .slice none 0 0, .slice none 0 0] 25 (0, 0)) (by (with_reducible repeat (first | refine blk_drewN ?_ _ | refine blk_drew ?_ | refine blk_alloc ?_ _)); exact BK604.out) hb)
  have n4_ := Aside0.mk (below_step (by repeat (first | (with_reducible first | exact HB.out | apply below_alloc | apply pw_below_drewN | apply below_drew1 | refine below_set ?_ GE603.out | refine below_set ?_ GE604.out) | exact HB.out)) hb)
  clear HO607
  clear BK603
  clear BK604
  clear HB
  have HO607 := n0_
  have HO610 := n1_
  have BK603 := n2_
  have BK604 := n3_
  have HB := n4_
  clear n0_ n1_ n2_ n3_ n4_
  (try clear hb)
  (try clear hb2)
  (try clear hk)
  (try clear hi)
  (try clear ho0)
  refine hK.out _ _ ⟨(blk_cell BK603.out 0).trans rfl, (blk_cell BK603.out 1).trans rfl, (blk_cell BK603.out 2).trans rfl, (blk_cell BK603.out 3).trans rfl, (blk_cell BK603.out 4).trans rfl⟩ (fun hHeld => ?_)
  clear hK K
  refine norm_ (a' := ?_) ?_ ?_
  rotate_left
  · show Act.put _ (some 8) _ = _
    simp only [Act.put, List.setIfInBounds_toArray, List.set_cons_zero, List.set_cons_succ, i64_w, i32_w]
    rfl
  refine one_ (i := 8) (N := some 11) #[true, true, true, true, true, true, true, true, true, true, true, false, true, true, false, false, false] rfl rfl (one_of HT_.out (by kernel_rfl)) (by decide) (fun K hK => ?_)
  refine goes_ Try.func65 (by kernel_rfl) rfl #[.slice A0_2 l0_2.length c0_2] (by rfl) rfl rfl (by (try simp only [List.map_toArray, List.map_cons, List.map_nil]); first | done | rfl | (simp only [List.length_drop, List.length_take]; rfl)) ?_
  with_reducible refine (slices_Clone_int_int.calls _ _ l0_2 t611 _ ?side1 ?side2 A4.out).mono ?_
  (case side1 => repeat (first | exact (Kd.C_below HR0_2.out HB.out) | (with_reducible refine Kd.C_alloc ?_ _) | (with_reducible refine Kd.C_drewN ?_ _) | (with_reducible refine Kd.C_drew ?_)))
  (case side2 => exact HC0_2.out)
  rintro e w12 ⟨v612, rfl, ho0, hb⟩
  refine ⟨_, rfl, ?_⟩
  have n0_ := Aside0.mk (Kd.R_below (by (with_reducible repeat (first | apply Kd.R_alloc | apply Kd.R_drewN | apply Kd.R_drew)); exact HO607.out) hb)
  have n1_ := Aside0.mk (Kd.R_below (by (with_reducible repeat (first | apply Kd.R_alloc | apply Kd.R_drewN | apply Kd.R_drew)); exact HO610.out) hb)
  have n2_ := Aside0.mk (Kd.R_lower ho0 (below_size (by repeat (first | (with_reducible first | exact HB.out | apply below_alloc | apply pw_below_drewN | apply below_drew1 | refine below_set ?_ GE603.out | refine below_set ?_ GE604.out) | exact HB.out))))
  have n3_ := Aside0.mk (blk_below (g := gb603) (o := .cells #[.slice A0_0 l0_0.length c0_0, .slice A0_1 l0_1.length c0_1, .slice A0_2 l0_2.length c0_2, .slice A0_3 l0_3.length c0_3, .slice A0_4 l0_4.length c0_4] 25 (0, 0)) (by (with_reducible repeat (first | refine blk_drewN ?_ _ | refine blk_drew ?_ | refine blk_alloc ?_ _)); exact BK603.out) hb)
  have n4_ := Aside0.mk (blk_below (g := gb604) (o := .cells #[.slice none 0 0, .slice none 0 0, .slice none 0 0, .slice none 0 0, .slice none 0 0] 25 (0, 0)) (by (with_reducible repeat (first | refine blk_drewN ?_ _ | refine blk_drew ?_ | refine blk_alloc ?_ _)); exact BK604.out) hb)
  have n5_ := Aside0.mk (below_step (by repeat (first | (with_reducible first | exact HB.out | apply below_alloc | apply pw_below_drewN | apply below_drew1 | refine below_set ?_ GE603.out | refine below_set ?_ GE604.out) | exact HB.out)) hb)
  clear HO607
  clear HO610
  clear BK603
  clear BK604
  clear HB
  have HO607 := n0_
  have HO610 := n1_
  have HO613 := n2_
  have BK603 := n3_
  have BK604 := n4_
  have HB := n5_
  clear n0_ n1_ n2_ n3_ n4_ n5_
  (try clear hb)
  (try clear hb2)
  (try clear hk)
  (try clear hi)
  (try clear ho0)
  refine hK.out _ _ ⟨(blk_cell BK603.out 0).trans rfl, (blk_cell BK603.out 1).trans rfl, (blk_cell BK603.out 2).trans rfl, (blk_cell BK603.out 3).trans rfl, (blk_cell BK603.out 4).trans rfl⟩ (fun hHeld => ?_)
  clear hK K
  refine norm_ (a' := ?_) ?_ ?_
  rotate_left
  · show Act.put _ (some 11) _ = _
    simp only [Act.put, List.setIfInBounds_toArray, List.set_cons_zero, List.set_cons_succ, i64_w, i32_w]
    rfl
  refine one_ (i := 11) (N := some 14) #[true, true, true, true, true, true, true, true, true, true, true, true, true, true, false, false, false] rfl rfl (one_of HT_.out (by kernel_rfl)) (by decide) (fun K hK => ?_)
  refine goes_ Try.func65 (by kernel_rfl) rfl #[.slice A0_3 l0_3.length c0_3] (by rfl) rfl rfl (by (try simp only [List.map_toArray, List.map_cons, List.map_nil]); first | done | rfl | (simp only [List.length_drop, List.length_take]; rfl)) ?_
  with_reducible refine (slices_Clone_int_int.calls _ _ l0_3 t614 _ ?side1 ?side2 A5.out).mono ?_
  (case side1 => repeat (first | exact (Kd.C_below HR0_3.out HB.out) | (with_reducible refine Kd.C_alloc ?_ _) | (with_reducible refine Kd.C_drewN ?_ _) | (with_reducible refine Kd.C_drew ?_)))
  (case side2 => exact HC0_3.out)
  rintro e w13 ⟨v615, rfl, ho0, hb⟩
  refine ⟨_, rfl, ?_⟩
  have n0_ := Aside0.mk (Kd.R_below (by (with_reducible repeat (first | apply Kd.R_alloc | apply Kd.R_drewN | apply Kd.R_drew)); exact HO607.out) hb)
  have n1_ := Aside0.mk (Kd.R_below (by (with_reducible repeat (first | apply Kd.R_alloc | apply Kd.R_drewN | apply Kd.R_drew)); exact HO610.out) hb)
  have n2_ := Aside0.mk (Kd.R_elder' (by (with_reducible repeat (first | apply Kd.R_alloc | apply Kd.R_drewN | apply Kd.R_drew)); exact HO613.out) (Kd.R_base ho0) hb)
  have n3_ := Aside0.mk (Kd.R_lower (Kd.R_new' ho0 (Kd.R_lt (by (with_reducible repeat (first | apply Kd.R_alloc | apply Kd.R_drewN | apply Kd.R_drew)); exact HO613.out))) (below_size (by repeat (first | (with_reducible first | exact HB.out | apply below_alloc | apply pw_below_drewN | apply below_drew1 | refine below_set ?_ GE603.out | refine below_set ?_ GE604.out) | exact HB.out))))
  have n4_ := Aside0.mk (blk_below (g := gb603) (o := .cells #[.slice A0_0 l0_0.length c0_0, .slice A0_1 l0_1.length c0_1, .slice A0_2 l0_2.length c0_2, .slice A0_3 l0_3.length c0_3, .slice A0_4 l0_4.length c0_4] 25 (0, 0)) (by (with_reducible repeat (first | refine blk_drewN ?_ _ | refine blk_drew ?_ | refine blk_alloc ?_ _)); exact BK603.out) hb)
  have n5_ := Aside0.mk (blk_below (g := gb604) (o := .cells #[.slice none 0 0, .slice none 0 0, .slice none 0 0, .slice none 0 0, .slice none 0 0] 25 (0, 0)) (by (with_reducible repeat (first | refine blk_drewN ?_ _ | refine blk_drew ?_ | refine blk_alloc ?_ _)); exact BK604.out) hb)
  have n6_ := Aside0.mk (below_step (by repeat (first | (with_reducible first | exact HB.out | apply below_alloc | apply pw_below_drewN | apply below_drew1 | refine below_set ?_ GE603.out | refine below_set ?_ GE604.out) | exact HB.out)) hb)
  clear HO607
  clear HO610
  clear HO613
  clear BK603
  clear BK604
  clear HB
  have HO607 := n0_
  have HO610 := n1_
  have HO613 := n2_
  have HO616 := n3_
  have BK603 := n4_
  have BK604 := n5_
  have HB := n6_
  clear n0_ n1_ n2_ n3_ n4_ n5_ n6_
  (try clear hb)
  (try clear hb2)
  (try clear hk)
  (try clear hi)
  (try clear ho0)
  refine hK.out _ _ ⟨(blk_cell BK603.out 0).trans rfl, (blk_cell BK603.out 1).trans rfl, (blk_cell BK603.out 2).trans rfl, (blk_cell BK603.out 3).trans rfl, (blk_cell BK603.out 4).trans rfl⟩ (fun hHeld => ?_)
  clear hK K
  refine norm_ (a' := ?_) ?_ ?_
  rotate_left
  · show Act.put _ (some 14) _ = _
    simp only [Act.put, List.setIfInBounds_toArray, List.set_cons_zero, List.set_cons_succ, i64_w, i32_w]
    rfl
  refine one_ (i := 14) (N := some 17) #[true, true, true, true, true, true, true, true, true, true, true, true, true, true, true, false, false] rfl rfl (one_of HT_.out (by kernel_rfl)) (by decide) (fun K hK => ?_)
  refine goes_ Try.func65 (by kernel_rfl) rfl #[.slice A0_4 l0_4.length c0_4] (by rfl) rfl rfl (by (try simp only [List.map_toArray, List.map_cons, List.map_nil]); first | done | rfl | (simp only [List.length_drop, List.length_take]; rfl)) ?_
  with_reducible refine (slices_Clone_int_int.calls _ _ l0_4 t617 _ ?side1 ?side2 A6.out).mono ?_
  (case side1 => repeat (first | exact (Kd.C_below HR0_4.out HB.out) | (with_reducible refine Kd.C_alloc ?_ _) | (with_reducible refine Kd.C_drewN ?_ _) | (with_reducible refine Kd.C_drew ?_)))
  (case side2 => exact HC0_4.out)
  rintro e w14 ⟨v618, rfl, ho0, hb⟩
  refine ⟨_, rfl, ?_⟩
  have n0_ := Aside0.mk (Kd.R_below (by (with_reducible repeat (first | apply Kd.R_alloc | apply Kd.R_drewN | apply Kd.R_drew)); exact HO607.out) hb)
  have n1_ := Aside0.mk (Kd.R_below (by (with_reducible repeat (first | apply Kd.R_alloc | apply Kd.R_drewN | apply Kd.R_drew)); exact HO610.out) hb)
  have n2_ := Aside0.mk (Kd.R_elder' (by (with_reducible repeat (first | apply Kd.R_alloc | apply Kd.R_drewN | apply Kd.R_drew)); exact HO613.out) (Kd.R_base ho0) hb)
  have n3_ := Aside0.mk (Kd.R_elder' (by (with_reducible repeat (first | apply Kd.R_alloc | apply Kd.R_drewN | apply Kd.R_drew)); exact HO616.out) (Kd.R_base ho0) hb)
  have n4_ := Aside0.mk (Kd.R_lower (Kd.R_new' (Kd.R_new' ho0 (Kd.R_lt (by (with_reducible repeat (first | apply Kd.R_alloc | apply Kd.R_drewN | apply Kd.R_drew)); exact HO613.out))) (Kd.R_lt (by (with_reducible repeat (first | apply Kd.R_alloc | apply Kd.R_drewN | apply Kd.R_drew)); exact HO616.out))) (below_size (by repeat (first | (with_reducible first | exact HB.out | apply below_alloc | apply pw_below_drewN | apply below_drew1 | refine below_set ?_ GE603.out | refine below_set ?_ GE604.out) | exact HB.out))))
  have n5_ := Aside0.mk (blk_below (g := gb603) (o := .cells #[.slice A0_0 l0_0.length c0_0, .slice A0_1 l0_1.length c0_1, .slice A0_2 l0_2.length c0_2, .slice A0_3 l0_3.length c0_3, .slice A0_4 l0_4.length c0_4] 25 (0, 0)) (by (with_reducible repeat (first | refine blk_drewN ?_ _ | refine blk_drew ?_ | refine blk_alloc ?_ _)); exact BK603.out) hb)
  have n6_ := Aside0.mk (blk_below (g := gb604) (o := .cells #[.slice none 0 0, .slice none 0 0, .slice none 0 0, .slice none 0 0, .slice none 0 0] 25 (0, 0)) (by (with_reducible repeat (first | refine blk_drewN ?_ _ | refine blk_drew ?_ | refine blk_alloc ?_ _)); exact BK604.out) hb)
  have n7_ := Aside0.mk (below_step (by repeat (first | (with_reducible first | exact HB.out | apply below_alloc | apply pw_below_drewN | apply below_drew1 | refine below_set ?_ GE603.out | refine below_set ?_ GE604.out) | exact HB.out)) hb)
  clear HO607
  clear HO610
  clear HO613
  clear HO616
  clear BK603
  clear BK604
  clear HB
  have HO607 := n0_
  have HO610 := n1_
  have HO613 := n2_
  have HO616 := n3_
  have HO619 := n4_
  have BK603 := n5_
  have BK604 := n6_
  have HB := n7_
  clear n0_ n1_ n2_ n3_ n4_ n5_ n6_ n7_
  (try clear hb)
  (try clear hb2)
  (try clear hk)
  (try clear hi)
  (try clear ho0)
  obtain ⟨Ao15, co15, eo15⟩ := Kd.R_slice HO619.out
  (first | subst eo15 | (injection eo15 with f1_ f2_ f3_; have f4_ := f1_.symm; have f5_ := f3_.symm; clear f1_ f2_ f3_; subst f4_; subst f5_))
  obtain ⟨Ao16, co16, eo16⟩ := Kd.R_slice HO616.out
  (first | subst eo16 | (injection eo16 with f1_ f2_ f3_; have f4_ := f1_.symm; have f5_ := f3_.symm; clear f1_ f2_ f3_; subst f4_; subst f5_))
  obtain ⟨Ao17, co17, eo17⟩ := Kd.R_slice HO613.out
  (first | subst eo17 | (injection eo17 with f1_ f2_ f3_; have f4_ := f1_.symm; have f5_ := f3_.symm; clear f1_ f2_ f3_; subst f4_; subst f5_))
  obtain ⟨Ao18, co18, eo18⟩ := Kd.R_slice HO610.out
  (first | subst eo18 | (injection eo18 with f1_ f2_ f3_; have f4_ := f1_.symm; have f5_ := f3_.symm; clear f1_ f2_ f3_; subst f4_; subst f5_))
  obtain ⟨Ao19, co19, eo19⟩ := Kd.R_slice HO607.out
  (first | subst eo19 | (injection eo19 with f1_ f2_ f3_; have f4_ := f1_.symm; have f5_ := f3_.symm; clear f1_ f2_ f3_; subst f4_; subst f5_))
  refine hK.out _ _ ⟨(blk_cell BK603.out 0).trans rfl, (blk_cell BK603.out 1).trans rfl, (blk_cell BK603.out 2).trans rfl, (blk_cell BK603.out 3).trans rfl, (blk_cell BK603.out 4).trans rfl⟩ (fun hHeld => ?_)
  clear hK K
  refine norm_ (a' := ?_) ?_ ?_
  rotate_left
  · show Act.put _ (some 17) _ = _
    simp only [Act.put, List.setIfInBounds_toArray, List.set_cons_zero, List.set_cons_succ, i64_w, i32_w]
    rfl
  refine pure_ (i := 15) (N := some 18) (v := ?_) (a' := ?_) #[true, true, true, true, true, true, true, true, true, true, true, true, true, true, true, true, false] rfl rfl (any_of HT_.out (by kernel_rfl)) (fun _ _ _ h => h) (Or.inl ⟨by rfl, ?_⟩) ?_ ?_
  rotate_left
  · intro w'
    go_simp
    with_reducible rfl
  rotate_left
  · simp only [Act.put, List.setIfInBounds_toArray, List.set_cons_zero, List.set_cons_succ, i64_w, i32_w]
    rfl
  refine one_ (i := 16) (N := none) #[true, true, true, true, true, true, true, true, true, true, true, true, true, true, true, true, true] rfl rfl (one_of HT_.out (by kernel_rfl)) (by decide) (fun K hK => ?_)
  have hs20 : w14.cell? ⟨gb604, 0, none⟩ = some (.slice none 0 0) := (blk_cell BK604.out 0).trans rfl
  have hfs20 := blk_frozen BK604.out 0
  have hns20_0 := NB603_604.out
  have hms20_0 := NB604_603.out
  have hs21 : w14.cell? ⟨gb604, 1, none⟩ = some (.slice none 0 0) := (blk_cell BK604.out 1).trans rfl
  have hfs21 := blk_frozen BK604.out 1
  have hns21_0 := NB603_604.out
  have hms21_0 := NB604_603.out
  have hs22 : w14.cell? ⟨gb604, 2, none⟩ = some (.slice none 0 0) := (blk_cell BK604.out 2).trans rfl
  have hfs22 := blk_frozen BK604.out 2
  have hns22_0 := NB603_604.out
  have hms22_0 := NB604_603.out
  have hs23 : w14.cell? ⟨gb604, 3, none⟩ = some (.slice none 0 0) := (blk_cell BK604.out 3).trans rfl
  have hfs23 := blk_frozen BK604.out 3
  have hns23_0 := NB603_604.out
  have hms23_0 := NB604_603.out
  have hs24 : w14.cell? ⟨gb604, 4, none⟩ = some (.slice none 0 0) := (blk_cell BK604.out 4).trans rfl
  have hfs24 := blk_frozen BK604.out 4
  have hns24_0 := NB603_604.out
  have hms24_0 := NB604_603.out
  refine skip_ (w1 := ?_) (by rfl) rfl ?_ ?_
  rotate_left
  · go_simp
    rfl
  refine hK.out _ _ ⟨((cell_far (p := ⟨gb604, _, none⟩) NB603_604.out _).trans (((cell_far (p := ⟨gb604, _, none⟩) NB603_604.out _).trans (((cell_far (p := ⟨gb604, _, none⟩) NB603_604.out _).trans (((cell_far (p := ⟨gb604, _, none⟩) NB603_604.out _).trans (((cell_far (p := ⟨gb604, _, none⟩) NB603_604.out _).trans (hHeld.1)))))))))), ((cell_far (p := ⟨gb604, _, none⟩) NB603_604.out _).trans (((cell_far (p := ⟨gb604, _, none⟩) NB603_604.out _).trans (((cell_far (p := ⟨gb604, _, none⟩) NB603_604.out _).trans (((cell_far (p := ⟨gb604, _, none⟩) NB603_604.out _).trans (((cell_far (p := ⟨gb604, _, none⟩) NB603_604.out _).trans (hHeld.2.1)))))))))), ((cell_far (p := ⟨gb604, _, none⟩) NB603_604.out _).trans (((cell_far (p := ⟨gb604, _, none⟩) NB603_604.out _).trans (((cell_far (p := ⟨gb604, _, none⟩) NB603_604.out _).trans (((cell_far (p := ⟨gb604, _, none⟩) NB603_604.out _).trans (((cell_far (p := ⟨gb604, _, none⟩) NB603_604.out _).trans (hHeld.2.2.1)))))))))), ((cell_far (p := ⟨gb604, _, none⟩) NB603_604.out _).trans (((cell_far (p := ⟨gb604, _, none⟩) NB603_604.out _).trans (((cell_far (p := ⟨gb604, _, none⟩) NB603_604.out _).trans (((cell_far (p := ⟨gb604, _, none⟩) NB603_604.out _).trans (((cell_far (p := ⟨gb604, _, none⟩) NB603_604.out _).trans (hHeld.2.2.2.1)))))))))), ((cell_far (p := ⟨gb604, _, none⟩) NB603_604.out _).trans (((cell_far (p := ⟨gb604, _, none⟩) NB603_604.out _).trans (((cell_far (p := ⟨gb604, _, none⟩) NB603_604.out _).trans (((cell_far (p := ⟨gb604, _, none⟩) NB603_604.out _).trans (((cell_far (p := ⟨gb604, _, none⟩) NB603_604.out _).trans (hHeld.2.2.2.2))))))))))⟩ (fun hHeld => ?_)
  clear hK K
  refine done_ (done_of HT_.out (by kernel_rfl)) ?_
  try go_wp2
  refine bodyPost_ret (results_cell_row rfl _ _ gb604 25 #[.slice Ao19 t605.length co19, .slice Ao18 t608.length co18, .slice Ao17 t611.length co17, .slice Ao16 t614.length co16, .slice Ao15 t617.length co15] (0, 0) _ rfl (by (with_reducible repeat (first | refine blk_drewN ?_ _ | refine blk_drew ?_ | refine blk_alloc ?_ _)); refine blk_put (cs := #[.slice Ao19 t605.length co19, .slice Ao18 t608.length co18, .slice Ao17 t611.length co17, .slice Ao16 t614.length co16, .slice none 0 0]) ?_ 4 _ rfl; (with_reducible repeat (first | refine blk_drewN ?_ _ | refine blk_drew ?_ | refine blk_alloc ?_ _)); refine blk_put (cs := #[.slice Ao19 t605.length co19, .slice Ao18 t608.length co18, .slice Ao17 t611.length co17, .slice none 0 0, .slice none 0 0]) ?_ 3 _ rfl; (with_reducible repeat (first | refine blk_drewN ?_ _ | refine blk_drew ?_ | refine blk_alloc ?_ _)); refine blk_put (cs := #[.slice Ao19 t605.length co19, .slice Ao18 t608.length co18, .slice none 0 0, .slice none 0 0, .slice none 0 0]) ?_ 2 _ rfl; (with_reducible repeat (first | refine blk_drewN ?_ _ | refine blk_drew ?_ | refine blk_alloc ?_ _)); refine blk_put (cs := #[.slice Ao19 t605.length co19, .slice none 0 0, .slice none 0 0, .slice none 0 0, .slice none 0 0]) ?_ 1 _ rfl; (with_reducible repeat (first | refine blk_drewN ?_ _ | refine blk_drew ?_ | refine blk_alloc ?_ _)); refine blk_put (cs := #[.slice none 0 0, .slice none 0 0, .slice none 0 0, .slice none 0 0, .slice none 0 0]) ?_ 0 _ rfl; (with_reducible repeat (first | refine blk_drewN ?_ _ | refine blk_drew ?_ | refine blk_alloc ?_ _)); exact BK604.out) Try.underlying25 rfl (by kernel_rfl)) rfl ?_
  exact ⟨_, _, _, _, _, by first | rfl | (simp [errW_none, errW_some] <;> rfl) | (simp [*, errW_none, errW_some] <;> rfl), by (with_reducible repeat (first | apply Kd.R_alloc | apply Kd.R_drewN | apply Kd.R_drew)); exact Kd.R_mono (Kd.R_far (p := ⟨gb604, 4, none⟩) (Kd.R_far (p := ⟨gb604, 3, none⟩) (Kd.R_far (p := ⟨gb604, 2, none⟩) (Kd.R_far (p := ⟨gb604, 1, none⟩) (Kd.R_far (p := ⟨gb604, 0, none⟩) (Kd.R_types HO607.out BK604.out (by decide)) (fun _ hk => hk.2) (.slice Ao19 t605.length co19)) (fun _ hk => hk.2) (.slice Ao18 t608.length co18)) (fun _ hk => hk.2) (.slice Ao17 t611.length co17)) (fun _ hk => hk.2) (.slice Ao16 t614.length co16)) (fun _ hk => hk.2) (.slice Ao15 t617.length co15)) (fun _ hk => hk.1.2), by (with_reducible repeat (first | apply Kd.R_alloc | apply Kd.R_drewN | apply Kd.R_drew)); exact Kd.R_mono (Kd.R_far (p := ⟨gb604, 4, none⟩) (Kd.R_far (p := ⟨gb604, 3, none⟩) (Kd.R_far (p := ⟨gb604, 2, none⟩) (Kd.R_far (p := ⟨gb604, 1, none⟩) (Kd.R_far (p := ⟨gb604, 0, none⟩) (Kd.R_types HO610.out BK604.out (by decide)) (fun _ hk => hk.2) (.slice Ao19 t605.length co19)) (fun _ hk => hk.2) (.slice Ao18 t608.length co18)) (fun _ hk => hk.2) (.slice Ao17 t611.length co17)) (fun _ hk => hk.2) (.slice Ao16 t614.length co16)) (fun _ hk => hk.2) (.slice Ao15 t617.length co15)) (fun _ hk => hk.1.2), by (with_reducible repeat (first | apply Kd.R_alloc | apply Kd.R_drewN | apply Kd.R_drew)); exact Kd.R_mono (Kd.R_far (p := ⟨gb604, 4, none⟩) (Kd.R_far (p := ⟨gb604, 3, none⟩) (Kd.R_far (p := ⟨gb604, 2, none⟩) (Kd.R_far (p := ⟨gb604, 1, none⟩) (Kd.R_far (p := ⟨gb604, 0, none⟩) (Kd.R_types HO613.out BK604.out (by decide)) (fun _ hk => hk.2) (.slice Ao19 t605.length co19)) (fun _ hk => hk.2) (.slice Ao18 t608.length co18)) (fun _ hk => hk.2) (.slice Ao17 t611.length co17)) (fun _ hk => hk.2) (.slice Ao16 t614.length co16)) (fun _ hk => hk.2) (.slice Ao15 t617.length co15)) (fun _ hk => ⟨hk.1.1.2, hk.1.2⟩), by (with_reducible repeat (first | apply Kd.R_alloc | apply Kd.R_drewN | apply Kd.R_drew)); exact Kd.R_mono (Kd.R_far (p := ⟨gb604, 4, none⟩) (Kd.R_far (p := ⟨gb604, 3, none⟩) (Kd.R_far (p := ⟨gb604, 2, none⟩) (Kd.R_far (p := ⟨gb604, 1, none⟩) (Kd.R_far (p := ⟨gb604, 0, none⟩) (Kd.R_types HO616.out BK604.out (by decide)) (fun _ hk => hk.2) (.slice Ao19 t605.length co19)) (fun _ hk => hk.2) (.slice Ao18 t608.length co18)) (fun _ hk => hk.2) (.slice Ao17 t611.length co17)) (fun _ hk => hk.2) (.slice Ao16 t614.length co16)) (fun _ hk => hk.2) (.slice Ao15 t617.length co15)) (fun _ hk => ⟨hk.1.1.2, hk.1.2⟩), by (with_reducible repeat (first | apply Kd.R_alloc | apply Kd.R_drewN | apply Kd.R_drew)); exact Kd.R_mono (Kd.R_far (p := ⟨gb604, 4, none⟩) (Kd.R_far (p := ⟨gb604, 3, none⟩) (Kd.R_far (p := ⟨gb604, 2, none⟩) (Kd.R_far (p := ⟨gb604, 1, none⟩) (Kd.R_far (p := ⟨gb604, 0, none⟩) (Kd.R_types HO619.out BK604.out (by decide)) (fun _ hk => hk.2) (.slice Ao19 t605.length co19)) (fun _ hk => hk.2) (.slice Ao18 t608.length co18)) (fun _ hk => hk.2) (.slice Ao17 t611.length co17)) (fun _ hk => hk.2) (.slice Ao16 t614.length co16)) (fun _ hk => hk.2) (.slice Ao15 t617.length co15)) (fun _ hk => ⟨hk.1.1.2, hk.1.2⟩), by repeat (first | (with_reducible first | exact HB.out | apply below_alloc | apply pw_below_drewN | apply below_drew1 | refine below_set ?_ GE603.out | refine below_set ?_ GE604.out) | exact HB.out)⟩
end Go.Proofs.Ytolmblfffnnabaa.P
namespace Go.Proofs.Ytolmblfffnnabaa.P
open Go.RowKit Go.Proofs.YtolmblfffnnabaaW.PrintWords Go.Proofs.YtolmblfffnnabaaW.PrintLast Go.Proofs.YtolmblfffnnabaaW.PrintMore
attribute [local go_sem] max2_int min2_int max_two min_two max_three min_three max_four min_four   
set_option linter.unusedVariables false
set_option linter.unusedSimpArgs false
end Go.Proofs.Ytolmblfffnnabaa.P
namespace Go.Proofs.Ytolmblfffnnabaa.P
open Go.RowKit Go.Proofs.YtolmblfffnnabaaW.PrintWords Go.Proofs.YtolmblfffnnabaaW.PrintLast Go.Proofs.YtolmblfffnnabaaW.PrintMore
attribute [local go_sem] max2_int min2_int max_two min_two max_three min_three max_four min_four   
set_option linter.unusedVariables false
set_option linter.unusedSimpArgs false
end Go.Proofs.Ytolmblfffnnabaa.P
namespace Go.Proofs.Ytolmblfffnnabaa.P
open Go.RowKit Go.Proofs.YtolmblfffnnabaaW.PrintWords Go.Proofs.YtolmblfffnnabaaW.PrintLast Go.Proofs.YtolmblfffnnabaaW.PrintMore
attribute [local go_sem] max2_int min2_int max_two min_two max_three min_three max_four min_four   
set_option linter.unusedVariables false
set_option linter.unusedSimpArgs false
end Go.Proofs.Ytolmblfffnnabaa.P
namespace Go.Proofs.Ytolmblfffnnabaa.P
open Go.RowKit Go.Proofs.YtolmblfffnnabaaW.PrintWords Go.Proofs.YtolmblfffnnabaaW.PrintLast Go.Proofs.YtolmblfffnnabaaW.PrintMore
attribute [local go_sem] max2_int min2_int max_two min_two max_three min_three max_four min_four   
set_option linter.unusedVariables false
set_option linter.unusedSimpArgs false
end Go.Proofs.Ytolmblfffnnabaa.P
namespace Go.Proofs.Ytolmblfffnnabaa.P
open Go.RowKit Go.Proofs.YtolmblfffnnabaaW.PrintWords Go.Proofs.YtolmblfffnnabaaW.PrintLast Go.Proofs.YtolmblfffnnabaaW.PrintMore
theorem stNone_small : Small stNone := by unfold Small stNone; simp
theorem spec_l5Copy_eq {s : St} (hs : Small s) : spec_l5Copy.f s.now s.sure s.last s.slast s.floors = some (s.now, s.sure, s.last, s.slast, s.floors) := by
  obtain ⟨g0, g1, g2, g3, g4⟩ := hs
  unfold spec_l5Copy.f
  simp only [Option.bind_some, List.length_nil, Nat.zero_add, List.nil_append]
  rw [if_pos (by omega), if_pos (by omega), if_pos (by omega), if_pos (by omega), if_pos (by omega)]
theorem clone_strs {l : List ByteArray} (h : l.length ≤ 1048576) : slices_Clone_string_string.f l = some l := by
  unfold slices_Clone_string_string.f
  rw [if_pos (by omega)]
theorem clone_ints {l : List Int} (h : l.length ≤ 1048576) : slices_Clone_int_int.f l = some l := by
  unfold slices_Clone_int_int.f
  rw [if_pos (by omega)]
theorem impl_again_eq {s : St} (hs : Small s) : impl_again.f s.now s.sure s.last s.slast s.floors = some (s.now, s.sure, s.last, s.slast, s.floors) := by
  obtain ⟨g0, g1, g2, g3, g4⟩ := hs
  unfold impl_again.f
  rw [clone_strs g0, clone_strs g1, clone_ints g2, clone_ints g3, clone_ints g4]
  rfl
section
variable {s : St}
variable {w : World} {v : Value} {t : St}
end
end Go.Proofs.Ytolmblfffnnabaa.P
namespace Go.Proofs.Ytolmblfffnnabaa.P
open Go.RowKit Go.Proofs.YtolmblfffnnabaaW.PrintWords Go.Proofs.YtolmblfffnnabaaW.PrintLast Go.Proofs.YtolmblfffnnabaaW.PrintMore
attribute [local go_sem] max2_int min2_int max_two min_two max_three min_three max_four min_four   
set_option linter.unusedVariables false
set_option linter.unusedSimpArgs false
end Go.Proofs.Ytolmblfffnnabaa.P
namespace Go.Proofs.Ytolmblfffnnabaa.P
open Go.RowKit Go.Proofs.YtolmblfffnnabaaW.PrintWords Go.Proofs.YtolmblfffnnabaaW.PrintLast Go.Proofs.YtolmblfffnnabaaW.PrintMore
def whoOk (a : Int) : Bool := decide (0 ≤ a) && decide (a < 3)
section
variable {w : World} {v : Value} {s : St}
theorem impl_again_c (hv : StC w v s) (hs : Small s) : Calls Try.prog 63 #[v] w fun e w' => ∃ u, e = .returned u ∧ StR w' w.heap.size w'.heap.size u s ∧ Below w.heap.size w w' := by
  obtain ⟨A0, c0, A1, c1, A2, c2, A3, c3, A4, c4, rfl, g0, g1, g2, g3, g4⟩ := hv
  refine (impl_again.calls A0 c0 s.now A1 c1 s.sure A2 c2 s.last A3 c3 s.slast A4 c4 s.floors _ _ _ _ _ w g0.1 g0.2 g1.1 g1.2 g2.1 g2.2 g3.1 g3.2 g4.1 g4.2 (impl_again_eq hs)).mono ?_
  rintro e w' ⟨v0, v1, v2, v3, v4, he, r0, r1, r2, r3, r4, hb⟩
  exact ⟨_, he, StR.mk r0 r1 r2 r3 r4, hb⟩
theorem spec_l5Copy_c (hv : StC w v s) (hs : Small s) : Calls Try.prog 62 #[v] w fun e w' => ∃ u, e = .returned u ∧ StR w' w.heap.size w'.heap.size u s ∧ Below w.heap.size w w' := by
  obtain ⟨A0, c0, A1, c1, A2, c2, A3, c3, A4, c4, rfl, g0, g1, g2, g3, g4⟩ := hv
  refine (spec_l5Copy.calls A0 c0 s.now A1 c1 s.sure A2 c2 s.last A3 c3 s.slast A4 c4 s.floors _ _ _ _ _ w g0.1 g0.2 g1.1 g1.2 g2.1 g2.2 g3.1 g3.2 g4.1 g4.2 (spec_l5Copy_eq hs)).mono ?_
  rintro e w' ⟨v0, v1, v2, v3, v4, he, r0, r1, r2, r3, r4, hb⟩
  exact ⟨_, he, StR.mk r0 r1 r2 r3 r4, hb⟩
theorem who_eq (a : Int) : impl_client.f a = some (whoOk a) := by
  unfold impl_client.f whoOk
  by_cases h : a ≥ 0
  · rw [if_pos h, decide_eq_true (show 0 ≤ a from h), Bool.true_and]
  · rw [if_neg h, decide_eq_false (show ¬ 0 ≤ a from h), Bool.false_and]
end
end Go.Proofs.Ytolmblfffnnabaa.P
namespace Go.Proofs.Ytolmblfffnnabaa.P
open Go.RowKit Go.Proofs.YtolmblfffnnabaaW.PrintWords Go.Proofs.YtolmblfffnnabaaW.PrintLast Go.Proofs.YtolmblfffnnabaaW.PrintMore
theorem ba_ext {a b : ByteArray} (h : a.data.toList = b.data.toList) : a = b := by
  obtain ⟨⟨a⟩⟩ := a
  obtain ⟨⟨b⟩⟩ := b
  simpa using h
theorem ba_app (a b : ByteArray) : (a ++ b).data.toList = a.data.toList ++ b.data.toList := by simp [ByteArray.data_append]
theorem ba_ex (a : ByteArray) (i j : Nat) : (a.extract i j).data.toList = (a.data.toList.drop i).take (j - i) := by
  simp [ByteArray.data_extract, Array.toList_extract, List.extract_eq_take_drop]
theorem ba_size (a : ByteArray) : a.data.toList.length = a.size := Array.length_toList
theorem ba_dots (n : Nat) : (dots n).data.toList = List.replicate n 46 := by simp [dots]
theorem dots_size (n : Nat) : (dots n).size = n := by rw [← ba_size, ba_dots]; simp
theorem dots_zero (t : ByteArray) : t ++ dots 0 = t := ba_ext (by rw [ba_app, ba_dots]; simp)
theorem dots_succ (t : ByteArray) (n : Nat) : t ++ (⟨#[46]⟩ : ByteArray) ++ dots n = t ++ dots (n + 1) := ba_ext (by
  rw [ba_app, ba_app, ba_app, ba_dots, ba_dots, List.append_assoc]
  rfl)
theorem app_size (a b : ByteArray) : (a ++ b).size = a.size + b.size := ByteArray.size_append
def writeText (t : ByteArray) (i : Nat) (d : ByteArray) : ByteArray := ((t ++ dots (i - t.size)).extract 0 i ++ d) ++ t.extract (min (i + d.size) t.size) t.size
theorem l2Long_loop (n : Nat) : ∀ d (t : ByteArray), t.size + d = n → n ≤ 4096 → Ev (fun k => spec_l2Long.l0 k t (n : Int)) (t ++ dots d)
  | 0, t, h, hn => by
    rw [dots_zero]
    refine Ev.step (f := fun _ => some t) (fun k => ?_) (Ev.now _)
    show spec_l2Long.l0 (k + 1) t (n : Int) = _
    rw [spec_l2Long.l0, if_neg (by omega)]
  | d + 1, t, h, hn => by
    have hs : (t ++ (⟨#[46]⟩ : ByteArray)).size = t.size + 1 := app_size _ _
    refine Ev.step (f := fun k => spec_l2Long.l0 k (t ++ (⟨#[46]⟩ : ByteArray)) (n : Int)) (fun k => ?_) ?_
    · show spec_l2Long.l0 (k + 1) t (n : Int) = _
      rw [spec_l2Long.l0, if_pos (by omega), if_pos (by omega)]
    · have := l2Long_loop n d (t ++ (⟨#[46]⟩ : ByteArray)) (by rw [hs]; omega) hn
      rw [dots_succ] at this
      exact this
theorem spec_l2Long_ev {t : ByteArray} {n : Nat} (hn : n ≤ 4096) : Ev (fun k => spec_l2Long.f k t (n : Int)) (t ++ dots (n - t.size)) := by
  unfold spec_l2Long.f
  by_cases h : t.size ≤ n
  · exact l2Long_loop n (n - t.size) t (by omega) hn
  · rw [show n - t.size = 0 by omega, dots_zero]
    refine Ev.step (f := fun _ => some t) (fun k => ?_) (Ev.now _)
    show spec_l2Long.l0 (k + 1) t (n : Int) = _
    rw [spec_l2Long.l0, if_neg (by omega)]
theorem ex_size (a : ByteArray) (i j : Nat) : (a.extract i j).size = min j a.size - i := ByteArray.size_extract
theorem l1Min_eq (x y : Int) : spec_l1Min.f x y = some (if x < y then x else y) := by
  unfold spec_l1Min.f
  split <;> rfl
theorem spec_l2Write_ev {t d : ByteArray} {i : Nat} (hi : i ≤ 48) (hd : d.size ≤ 48) (ht : t.size ≤ 4096) : Ev (fun k => spec_l2Write.f k t (i : Int) d) (writeText t i d) := by
  unfold spec_l2Write.f
  refine Ev.bind (spec_l2Long_ev (by omega)) ?_
  have hL : (t ++ dots (i - t.size)).size = max t.size i := by rw [app_size, dots_size]; omega
  refine Ev.congr (f := fun _ => some (writeText t i d)) (fun k => ?_) (Ev.now _)
  rw [if_pos (by omega), if_pos (by rw [hL]; omega), if_pos (by rw [ex_size, hL]; omega), l1Min_eq, Option.bind_some, w64 (by omega) (by omega), hL, Int.toNat_natCast]
  have hq : (if ((max t.size i : Nat) : Int) < (i : Int) + (d.size : Int) then ((max t.size i : Nat) : Int) else (i : Int) + (d.size : Int)) = ((min (max t.size i) (i + d.size) : Nat) : Int) := by split <;> omega
  rw [hq, if_pos (by omega), if_pos (by omega), if_pos (by rw [app_size, ex_size, ex_size, hL]; omega), Int.toNat_natCast]
  congr 1
  unfold writeText
  refine congrArg (fun z => ((t ++ dots (i - t.size)).extract 0 i ++ d) ++ z) (ba_ext ?_)
  rw [ba_ex, ba_ex, ba_app, ba_dots]
  have hs := ba_size t
  by_cases h : i + d.size ≤ t.size
  · rw [show i - t.size = 0 by omega, show max t.size i = t.size by omega, Nat.min_comm]
    simp
  · rw [show min (i + d.size) t.size = t.size by omega, show min (max t.size i) (i + d.size) = max t.size i by omega]
    simp
def writeOk (i : Int) (d : ByteArray) : Bool := decide (0 ≤ i) && (decide (i ≤ 48) && (!decide (d.size = 0) && (textOk d && decide (i + d.size ≤ 48))))
theorem writeOk_iff {i : Int} {d : ByteArray} : writeOk i d = true ↔ 0 ≤ i ∧ i ≤ 48 ∧ d.size ≠ 0 ∧ textOk d = true ∧ i + d.size ≤ 48 := by simp [writeOk]
theorem mx_nat (a b : Nat) : mx (a : Int) (b : Int) = ((max a b : Nat) : Int) := by unfold mx; split <;> omega
theorem mn_nat (a b : Nat) : mn (a : Int) (b : Int) = ((min a b : Nat) : Int) := by unfold mn; split <;> omega
theorem impl_write_eq {t d : ByteArray} {i : Nat} (hi : i + d.size ≤ 48) (ht : t.size ≤ 48) (z : Option (ByteArray × Bool)) :
    ((impl_sized.f t (mx (t.size : Int) (wrap64 ((i : Int) + (d.size : Int))))).bind fun t1213 => (if 0 ≤ (i : Int) then (if (i : Int) ≤ (t1213.size : Int) then (if (t1213.extract 0 (i : Int).toNat).size + d.size ≤ 9223372036854775807 then (if 0 ≤ (mn (wrap64 ((i : Int) + (d.size : Int))) (t.size : Int)) then (if (mn (wrap64 ((i : Int) + (d.size : Int))) (t.size : Int)) ≤ (t.size : Int) then (if ((t1213.extract 0 (i : Int).toNat) ++ d).size + (t.extract ((mn (wrap64 ((i : Int) + (d.size : Int))) (t.size : Int)) : Int).toNat t.size).size ≤ 9223372036854775807 then (some (((t1213.extract 0 (i : Int).toNat) ++ d) ++ (t.extract ((mn (wrap64 ((i : Int) + (d.size : Int))) (t.size : Int)) : Int).toNat t.size), true)) else z) else z) else z) else z) else z) else z)) = some (writeText t i d, true) := by
  rw [w64 (by omega) (by omega), show (i : Int) + (d.size : Int) = ((i + d.size : Nat) : Int) by omega, mx_nat, mn_nat]
  have hz : impl_sized.f t ((max t.size (i + d.size) : Nat) : Int) = some (t ++ dots (i + d.size - t.size)) := by
    unfold impl_sized.f
    by_cases h : i + d.size ≤ t.size
    · rw [if_pos (by omega), if_pos (by omega), Int.toNat_natCast, show i + d.size - t.size = 0 by omega, dots_zero, show max t.size (i + d.size) = t.size by omega]
      congr 1
      refine ba_ext ?_
      rw [ba_ex, List.drop_zero]
      exact List.take_of_length_le (by rw [ba_size]; omega)
    · rw [if_neg (by omega), if_pos (by omega), Int.toNat_natCast, show max t.size (i + d.size) = i + d.size by omega]
  have hL : (t ++ dots (i + d.size - t.size)).size = max t.size (i + d.size) := by rw [app_size, dots_size]; omega
  rw [hz, Option.bind_some, if_pos (by omega), if_pos (by rw [hL]; omega), Int.toNat_natCast, if_pos (by rw [ex_size, hL]; omega), if_pos (by omega), if_pos (by omega), Int.toNat_natCast, if_pos (by rw [app_size, ex_size, ex_size, hL]; omega)]
  unfold writeText
  have hx : (t ++ dots (i + d.size - t.size)).extract 0 i = (t ++ dots (i - t.size)).extract 0 i := by
    refine ba_ext ?_
    rw [ba_ex, ba_ex, ba_app, ba_app, ba_dots, ba_dots, List.drop_zero, List.drop_zero, Nat.sub_zero, List.take_append, List.take_append, List.take_replicate, List.take_replicate, ba_size]
    congr 2
    omega
  rw [hx]
theorem impl_TextWrite_ev {t d : ByteArray} {i : Int} (ht : t.size ≤ 9223372036854775807) (hd : d.size ≤ 9223372036854775807) :
    Ev (fun k => impl_TextWrite.f k t i d) (if textOk t = true then (if writeOk i d = true then (writeText t i.toNat d, true) else (t, false)) else (⟨#[]⟩, false)) := by
  unfold impl_TextWrite.f
  refine Ev.bind (impl_TextOk_ev ht) ?_
  cases htx : textOk t
  · exact Ev.now _
  have htz : t.size ≤ 48 := by simp [textOk] at htx; exact htx.2
  simp only [if_true]
  have no : writeOk i d = false → Ev (fun _ : Nat => some (t, false)) (if writeOk i d = true then (writeText t i.toNat d, true) else (t, false)) := fun h => by
    rw [h]
    exact Ev.now _
  by_cases h1 : i < 0
  · simp only [if_pos h1]
    exact no (Bool.eq_false_iff.2 fun h => by have := writeOk_iff.1 h; omega)
  simp only [if_neg h1]
  by_cases h2 : i > 48
  · simp only [if_pos h2]
    exact no (Bool.eq_false_iff.2 fun h => by have := writeOk_iff.1 h; omega)
  simp only [if_neg h2]
  by_cases h3 : d.toList = []
  · simp only [if_pos h3]
    exact no (Bool.eq_false_iff.2 fun h => (writeOk_iff.1 h).2.2.1 (toList_nil.1 h3))
  have h3' : d.size ≠ 0 := fun h => h3 (toList_nil.2 h)
  simp only [if_neg h3]
  refine Ev.bind (impl_TextOk_ev hd) ?_
  cases h5 : textOk d
  · exact no (Bool.eq_false_iff.2 fun h => by have := (writeOk_iff.1 h).2.2.2.1; rw [h5] at this; cases this)
  simp only [if_true]
  have hdz : d.size ≤ 48 := by simp [textOk] at h5; exact h5.2
  obtain ⟨n, rfl⟩ := Int.eq_ofNat_of_zero_le (by omega : 0 ≤ i)
  by_cases h4 : (n : Int) + d.size ≤ 48
  · have hw : ¬ wrap64 ((n : Int) + (d.size : Int)) > 48 := by rw [w64 (by omega) (by omega)]; omega
    simp only [if_neg hw]
    rw [if_pos (writeOk_iff.2 ⟨by omega, by omega, h3', h5, h4⟩), Int.toNat_natCast]
    exact Ev.congr (f := fun _ => some (writeText t n d, true)) (fun k => impl_write_eq (by omega) htz none) (Ev.now _)
  · have hw : wrap64 ((n : Int) + (d.size : Int)) > 48 := by rw [w64 (by omega) (by omega)]; omega
    simp only [if_pos hw]
    exact no (Bool.eq_false_iff.2 fun h => h4 (writeOk_iff.1 h).2.2.2.2)
structure Rq where
  who : Int
  epoch : Int
  num : Int
  obj : Int
  at_ : Int
  data : ByteArray
deriving DecidableEq
def reqOk (q : Rq) : Bool := whoOk q.who && (decide (0 ≤ q.epoch) && (decide (q.epoch ≤ 100) && (decide (1 ≤ q.num) && (decide (q.num ≤ 1000) && (decide (0 ≤ q.obj) && (decide (q.obj < 3) && writeOk q.at_ q.data))))))
theorem reqOk_iff {q : Rq} : reqOk q = true ↔ whoOk q.who = true ∧ 0 ≤ q.epoch ∧ q.epoch ≤ 100 ∧ 1 ≤ q.num ∧ q.num ≤ 1000 ∧ 0 ≤ q.obj ∧ q.obj < 3 ∧ writeOk q.at_ q.data = true := by simp [reqOk]
theorem spec_l5Req_ev {q : Rq} (hd : q.data.size ≤ 9223372036854775807) : Ev (fun k => spec_l5Req.f k q.who q.epoch q.num q.obj q.at_ q.data) (reqOk q) := by
  unfold spec_l5Req.f
  have hw : spec_l4Who.f q.who = some (whoOk q.who) := who_eq q.who
  rw [hw]
  simp only [Option.bind_some]
  have no : ∀ {x : Bool}, (reqOk q = true → x = true → False) → (x = true) → Ev (fun _ : Nat => some false) (reqOk q) := fun h hx => by
    cases hr : reqOk q
    · exact Ev.now _
    · exact (h hr hx).elim
  by_cases h0 : whoOk q.who = true
  case neg => rw [show (fun k => _) = (fun _ : Nat => some false) from funext fun k => if_neg h0]; exact no (x := true) (fun h _ => h0 (reqOk_iff.1 h).1) rfl
  simp only [if_pos h0]
  by_cases h1 : q.epoch < 0
  · simp only [if_pos h1]; exact no (x := true) (fun h _ => by have := reqOk_iff.1 h; omega) rfl
  simp only [if_neg h1]
  by_cases h2 : q.epoch > 100
  · simp only [if_pos h2]; exact no (x := true) (fun h _ => by have := reqOk_iff.1 h; omega) rfl
  simp only [if_neg h2]
  by_cases h3 : q.num < 1
  · simp only [if_pos h3]; exact no (x := true) (fun h _ => by have := reqOk_iff.1 h; omega) rfl
  simp only [if_neg h3]
  by_cases h4 : q.num > 1000
  · simp only [if_pos h4]; exact no (x := true) (fun h _ => by have := reqOk_iff.1 h; omega) rfl
  simp only [if_neg h4]
  by_cases h5 : q.obj < 0
  · simp only [if_pos h5]; exact no (x := true) (fun h _ => by have := reqOk_iff.1 h; omega) rfl
  simp only [if_neg h5]
  by_cases h6 : q.obj ≥ 3
  · simp only [if_pos h6]; exact no (x := true) (fun h _ => by have := reqOk_iff.1 h; omega) rfl
  simp only [if_neg h6]
  by_cases h7 : q.at_ ≥ 0
  case neg => simp only [if_neg h7]; exact no (x := true) (fun h _ => by have := writeOk_iff.1 (reqOk_iff.1 h).2.2.2.2.2.2.2; omega) rfl
  simp only [if_pos h7]
  by_cases h8 : q.at_ ≤ 48
  case neg => simp only [if_neg h8]; exact no (x := true) (fun h _ => by have := writeOk_iff.1 (reqOk_iff.1 h).2.2.2.2.2.2.2; omega) rfl
  simp only [if_pos h8]
  refine Ev.bind (spec_TextOk_ev hd) ?_
  cases h9 : textOk q.data
  · exact no (x := true) (fun h _ => by have := (writeOk_iff.1 (reqOk_iff.1 h).2.2.2.2.2.2.2).2.2.2.1; rw [h9] at this; cases this) rfl
  simp only [if_true]
  have hz : q.data.size ≤ 48 := by simp [textOk] at h9; exact h9.2
  by_cases h10 : q.data.toList = []
  · simp only [if_pos h10]; exact no (x := true) (fun h _ => (writeOk_iff.1 (reqOk_iff.1 h).2.2.2.2.2.2.2).2.2.1 (toList_nil.1 h10)) rfl
  simp only [if_neg h10]
  rw [w64 (by omega) (by omega)]
  have : reqOk q = decide (q.at_ + (q.data.size : Int) ≤ 48) := by
    rw [Bool.eq_iff_iff, reqOk_iff, writeOk_iff, decide_eq_true_eq]
    exact ⟨fun h => by omega, fun h => ⟨h0, by omega, by omega, by omega, by omega, by omega, by omega, by omega, by omega, fun e => h10 (toList_nil.2 e), h9, h⟩⟩
  rw [this]
  exact Ev.now _
theorem impl_formed_ev {q : Rq} (hd : q.data.size ≤ 9223372036854775807) : Ev (fun k => impl_formed.f k q.who q.epoch q.num q.obj q.at_ q.data) (reqOk q) := by
  unfold impl_formed.f
  refine Ev.bind (impl_TextWrite_ev (by decide) hd) ?_
  have h0 : textOk ⟨#[]⟩ = true := by decide
  rw [if_pos h0]
  have hb : ∀ (x y : ByteArray), (if writeOk q.at_ q.data = true then (x, true) else (y, false)).2 = writeOk q.at_ q.data := fun x y => by cases writeOk q.at_ q.data <;> rfl
  rw [who_eq, Option.bind_some, hb]
  have : (if whoOk q.who = true then (if q.epoch ≥ 0 then (if q.epoch ≤ 100 then (if q.num ≥ 1 then (if q.num ≤ 1000 then (if q.obj ≥ 0 then (if q.obj < 3 then (some (writeOk q.at_ q.data)) else (some false)) else (some false)) else (some false)) else (some false)) else (some false)) else (some false)) else (some false)) = some (reqOk q) := by
    by_cases c0 : whoOk q.who = true <;> by_cases c1 : 0 ≤ q.epoch <;> by_cases c2 : q.epoch ≤ 100 <;> by_cases c3 : 1 ≤ q.num <;> by_cases c4 : q.num ≤ 1000 <;> by_cases c5 : 0 ≤ q.obj <;> by_cases c6 : q.obj < 3 <;> simp [reqOk, c0, c1, c2, c3, c4, c5, c6]
  rw [this]
  exact Ev.now _
end Go.Proofs.Ytolmblfffnnabaa.P
namespace Go.Proofs.Ytolmblfffnnabaa.P
open Go.RowKit Go.Proofs.YtolmblfffnnabaaW.PrintWords Go.Proofs.YtolmblfffnnabaaW.PrintLast Go.Proofs.YtolmblfffnnabaaW.PrintMore
section
variable {w : World} {who ep num obj at_ : Int} {data r t : ByteArray} {b : Bool}
theorem spec_l5Req_c (hd : data.size ≤ 9223372036854775807) (hq : reqOk ⟨who, ep, num, obj, at_, data⟩ = b) :
    Calls Try.prog 76 #[.agg #[.int .i64 who, .int .i64 ep, .int .i64 num, .int .i64 obj, .int .i64 at_, .string data]] w fun e w' => e = .returned (.bool b) ∧ Below w.heap.size w w' := by
  obtain ⟨k, hk⟩ := (spec_l5Req_ev (q := ⟨who, ep, num, obj, at_, data⟩) hd).rounds
  rw [hq] at hk
  exact spec_l5Req.calls k who ep num obj at_ data b w hk
theorem impl_formed_c (hd : data.size ≤ 9223372036854775807) (hq : reqOk ⟨who, ep, num, obj, at_, data⟩ = b) :
    Calls Try.prog 72 #[.agg #[.int .i64 who, .int .i64 ep, .int .i64 num, .int .i64 obj, .int .i64 at_, .string data]] w fun e w' => e = .returned (.bool b) ∧ Below w.heap.size w w' := by
  obtain ⟨k, hk⟩ := (impl_formed_ev (q := ⟨who, ep, num, obj, at_, data⟩) hd).rounds
  rw [hq] at hk
  exact impl_formed.calls k who ep num obj at_ data b w hk
theorem textOk_size {t : ByteArray} (h : textOk t = true) : t.size ≤ 48 := by
  simp [textOk] at h
  exact h.2
theorem spec_l2Write_c (hq : reqOk ⟨who, ep, num, obj, at_, data⟩ = true) (ht : textOk t = true) (hr : writeText t at_.toNat data = r) :
    Calls Try.prog 77 #[.string t, .int .i64 at_, .string data] w fun e w' => e = .returned (.string r) ∧ Below w.heap.size w w' := by
  obtain ⟨h1, h2, h3, h4, h5⟩ := writeOk_iff.1 (reqOk_iff.1 hq).2.2.2.2.2.2.2
  have h1 : 0 ≤ at_ := h1
  have h2 : at_ ≤ 48 := h2
  have h5 : at_ + (data.size : Int) ≤ 48 := h5
  obtain ⟨n, rfl⟩ := Int.eq_ofNat_of_zero_le h1
  obtain ⟨k, hk⟩ := (spec_l2Write_ev (t := t) (d := data) (i := n) (by omega) (by omega) (by have := textOk_size ht; omega)).rounds
  rw [Int.toNat_natCast] at hr
  rw [hr] at hk
  exact (spec_l2Write.calls k t n data r w hk).mono fun _ _ ⟨e, h⟩ => ⟨e, h.below⟩
theorem impl_TextWrite_c (hq : reqOk ⟨who, ep, num, obj, at_, data⟩ = true) (ht : textOk t = true) (hr : writeText t at_.toNat data = r) :
    Calls Try.prog 73 #[.string t, .int .i64 at_, .string data] w fun e w' => e = .returned (.tuple #[.string r, .bool true]) ∧ Below w.heap.size w w' := by
  have hw := (reqOk_iff.1 hq).2.2.2.2.2.2.2
  obtain ⟨h1, h2, h3, h4, h5⟩ := writeOk_iff.1 hw
  obtain ⟨k, hk⟩ := (impl_TextWrite_ev (t := t) (d := data) (i := at_) (by have := textOk_size ht; omega) (by have := textOk_size (show textOk data = true from h4); omega)).rounds
  rw [if_pos ht, if_pos (show writeOk at_ data = true from hw), hr] at hk
  exact impl_TextWrite.calls k t at_ data r true w hk
end
end Go.Proofs.Ytolmblfffnnabaa.P
namespace Go.Proofs.Ytolmblfffnnabaa.P
open Go.RowKit Go.Proofs.YtolmblfffnnabaaW.PrintWords Go.Proofs.YtolmblfffnnabaaW.PrintLast Go.Proofs.YtolmblfffnnabaaW.PrintMore
attribute [local go_sem] max2_int min2_int max_two min_two
set_option linter.unusedVariables false
set_option linter.unusedSimpArgs false
set_option maxHeartbeats 8000000 in
set_option maxRecDepth 100000 in
theorem spec_l5Do_p1 {w0 w : World} {v0 : Value} {s0 : St} {lo hi : Nat} (hB : Below w0.heap.size w0 w) (hv0 : StR w lo hi v0 s0) (hlo : w0.heap.size ≤ lo) (hhi : hi ≤ w.heap.size) (who ep num obj at_ : Int) (data : ByteArray) (hd : data.size ≤ 9223372036854775807) (hq : reqOk ⟨who, ep, num, obj, at_, data⟩ = false) :
    Calls Try.prog 69 #[v0, .agg #[.int .i64 who, .int .i64 ep, .int .i64 num, .int .i64 obj, .int .i64 at_, .string data]] w fun e w' => e = .returned (.tuple #[v0, .int .i64 1]) ∧ StR w' lo hi v0 s0 ∧ Below w0.heap.size w0 w' ∧ Kept w w' (fun k => lo ≤ k ∧ k < hi) := by
  have HB0 := Aside0.mk hB
  have HLO := Aside0.mk hlo
  have HHI := Aside0.mk hhi
  have HV0 := Aside0.mk hv0
  obtain ⟨A0, c0, A1, c1, A2, c2, A3, c3, A4, c4, rfl, _⟩ := hv0.toC
  have KP0 := Aside0.mk (Kept.refl w (fun k => lo ≤ k ∧ k < hi))
  clear hB hlo hhi hv0
  have HD := Aside0.mk hd
  have HQ := Aside0.mk hq
  clear hd hq
  have hu25 := Try.underlying25
  have hu63 := Try.underlying63
  go_enter Try.func69, Try.ntmps69
  go_wp2_with (first | ((with_reducible refine gate_dst (N := 2) rfl ?_); refine ev_box ?hg (N := 2) ?hd (cs := #[.slice A0 s0.now.length c0, .slice A1 s0.sure.length c1, .slice A2 s0.last.length c2, .slice A3 s0.slast.length c3, .slice A4 s0.floors.length c4]) (t := 25) ?hr ?_; (case hd => rfl); (case hg => rfl); (case hr => first | (go_simp; done) | (go_simp; rfl)); intro g2 W1 HG4 BK2 HB3) | ((with_reducible refine gate_dst (N := 3) rfl ?_); refine ev_box ?hg (N := 3) ?hd (cs := #[.int .i64 who, .int .i64 ep, .int .i64 num, .int .i64 obj, .int .i64 at_, .string data]) (t := 63) ?hr ?_; (case hd => rfl); (case hg => rfl); (case hr => first | (go_simp; done) | (go_simp; rfl)); intro g3 W5 HG8 BK6 HB7) | ((with_reducible refine gate_dst (N := 4) rfl ?_); refine ev_box ?hg (N := 4) ?hd (cs := #[.slice none 0 0, .slice none 0 0, .slice none 0 0, .slice none 0 0, .slice none 0 0]) (t := 25) ?hr ?_; (case hd => rfl); (case hg => rfl); (case hr => first | (go_simp; done) | (go_simp; rfl)); intro g4 W9 HG12 BK10 HB11) | ((with_reducible refine gate_dst (N := 7) rfl ?_); refine ev_load rfl (N := 7) rfl rfl (g := g3) rfl (cs := #[.int .i64 who, .int .i64 ep, .int .i64 num, .int .i64 obj, .int .i64 at_, .string data]) (Bk.below BK6.out HB11.out) hu63 rfl (by kernel_rfl) ?_))
  refine (spec_l5Req_c HD.out HQ.out).mono ?_
  rintro e W13 ⟨rfl, hb14⟩
  have HB15 := Aside0.mk hb14
  clear hb14
  go_wp2_with (first | ((with_reducible refine gate_dst (N := 10) rfl ?_); refine ev_load rfl (N := 10) rfl rfl (g := g2) rfl (cs := #[.slice A0 s0.now.length c0, .slice A1 s0.sure.length c1, .slice A2 s0.last.length c2, .slice A3 s0.slast.length c3, .slice A4 s0.floors.length c4]) (Bk.below BK2.out (below_step (below_step HB7.out HB11.out) HB15.out)) hu25 rfl (by kernel_rfl) ?_) | ((with_reducible refine gate_store (t := 25) (p := 4) rfl ?_); refine ev_put (by rfl) rfl rfl (g := g4) rfl (cs := #[.slice A0 s0.now.length c0, .slice A1 s0.sure.length c1, .slice A2 s0.last.length c2, .slice A3 s0.slast.length c3, .slice A4 s0.floors.length c4]) rfl (Bk.below BK10.out HB15.out) (by kernel_rfl) rfl rfl ?_; intro W16 BK17 HB18 HK19; have z0_ := HLO.out; have z1_ := HHI.out; have z2_ := HB0.out.size; have z3_ := HB3.out.size; have z4_ := HG4.out; have z5_ := BK2.out.lt; have z6_ := HB7.out.size; have z7_ := HG8.out; have z8_ := BK6.out.lt; have z9_ := HB11.out.size; have z10_ := HG12.out; have z11_ := BK10.out.lt; have z12_ := HB15.out.size; have HB20 := Aside0.mk (below_at (below_step HB0.out (below_step (below_step (below_step HB3.out HB7.out) HB11.out) HB15.out)) HB18.out (by show w0.heap.size ≤ g4; omega)); have HK21 := Aside0.mk (HK19.out); have KP22 := Aside0.mk (kept_new (Kept.below KP0.out (below_step (below_step (below_step HB3.out HB7.out) HB11.out) HB15.out)) HK21.out (by show w.heap.size ≤ g4; omega)); have F23 := Aside0.mk (StR.kept (StR.below HV0.out (below_step (below_step (below_step HB3.out HB7.out) HB11.out) HB15.out)) HK21.out (fun k_ h_ => (by obtain ⟨h1_, h2_⟩ := h_; omega))); have F24 := Aside0.mk (Bk.kept (Bk.below BK2.out (below_step (below_step HB7.out HB11.out) HB15.out)) HK21.out (fun h_ => (by obtain ⟨h1_, h2_⟩ := h_; omega))); have F25 := Aside0.mk (Bk.kept (Bk.below BK6.out (below_step HB11.out HB15.out)) HK21.out (fun h_ => (by obtain ⟨h1_, h2_⟩ := h_; omega))); have F26 := Aside0.mk (BK17.out); clear z0_ z1_ z2_ z3_ z4_ z5_ z6_ z7_ z8_ z9_ z10_ z11_ z12_))
  try go_wp2
  refine bodyPost_ret (results_ct rfl _ _ g4 25 #[.slice A0 s0.now.length c0, .slice A1 s0.sure.length c1, .slice A2 s0.last.length c2, .slice A3 s0.slast.length c3, .slice A4 s0.floors.length c4] (0, 0) _ rfl F26.out hu25 rfl (by kernel_rfl)) rfl ?_
  exact ⟨rfl, F23.out, HB20.out, KP22.out⟩
set_option maxHeartbeats 8000000 in
set_option maxRecDepth 100000 in
theorem spec_l5Do_p2 {w0 w : World} {v0 : Value} {s0 : St} {lo hi : Nat} (hB : Below w0.heap.size w0 w) (hv0 : StR w lo hi v0 s0) (hlo : w0.heap.size ≤ lo) (hhi : hi ≤ w.heap.size) (who ep num obj at_ : Int) (data : ByteArray) (hd : data.size ≤ 9223372036854775807) (b0 : 0 ≤ who) (b1 : who < s0.floors.length) (b2 : who < s0.last.length) (b3 : 0 ≤ obj) (b4 : obj < s0.now.length) (b5 : textOk (rdOf ByteArray.empty s0.now obj) = true) (hq : reqOk ⟨who, ep, num, obj, at_, data⟩ = true) (h1 : ep < rd s0.floors who) :
    Calls Try.prog 69 #[v0, .agg #[.int .i64 who, .int .i64 ep, .int .i64 num, .int .i64 obj, .int .i64 at_, .string data]] w fun e w' => e = .returned (.tuple #[v0, .int .i64 2]) ∧ StR w' lo hi v0 s0 ∧ Below w0.heap.size w0 w' ∧ Kept w w' (fun k => lo ≤ k ∧ k < hi) := by
  have HB0 := Aside0.mk hB
  have HLO := Aside0.mk hlo
  have HHI := Aside0.mk hhi
  have HV0 := Aside0.mk hv0
  obtain ⟨A0, c0, A1, c1, A2, c2, A3, c3, A4, c4, rfl, _⟩ := hv0.toC
  have KP0 := Aside0.mk (Kept.refl w (fun k => lo ≤ k ∧ k < hi))
  clear hB hlo hhi hv0
  have hd1 : decide (ep < rd s0.floors who) = true := decide_eq_true h1
  clear h1
  have hb0 := eq_true b0
  have HN0 := Aside0.mk b0
  have hb1 := eq_true b1
  have HN1 := Aside0.mk b1
  have hb2 := eq_true b2
  have HN2 := Aside0.mk b2
  have hb3 := eq_true b3
  have HN3 := Aside0.mk b3
  have hb4 := eq_true b4
  have HN4 := Aside0.mk b4
  have HN5 := Aside0.mk b5
  clear b0 b1 b2 b3 b4 b5
  have HD := Aside0.mk hd
  have HQ := Aside0.mk hq
  clear hd hq
  obtain ⟨g1, rfl⟩ := StR.floors_form HV0.out HN0.out HN1.out; have GT2 := Aside0.mk (StR.floors_lt HV0.out); have GL3 := Aside0.mk (StR.floors_cell HV0.out HN0.out HN1.out).1; have GH4 := Aside0.mk (StR.floors_cell HV0.out HN0.out HN1.out).2.1
  obtain ⟨g5, rfl⟩ := StR.last_form HV0.out HN0.out HN2.out; have GT6 := Aside0.mk (StR.last_lt HV0.out); have GL7 := Aside0.mk (StR.last_cell HV0.out HN0.out HN2.out).1; have GH8 := Aside0.mk (StR.last_cell HV0.out HN0.out HN2.out).2.1
  obtain ⟨g9, rfl⟩ := StR.now_form HV0.out HN3.out HN4.out; have GT10 := Aside0.mk (StR.now_lt HV0.out); have GL11 := Aside0.mk (StR.now_cell HV0.out HN3.out HN4.out).1; have GH12 := Aside0.mk (StR.now_cell HV0.out HN3.out HN4.out).2.1
  have hu25 := Try.underlying25
  have hu63 := Try.underlying63
  go_enter Try.func69, Try.ntmps69
  go_wp2_with (first | ((with_reducible refine gate_dst (N := 2) rfl ?_); refine ev_box ?hg (N := 2) ?hd (cs := #[.slice (some ⟨g9, 0, none⟩) s0.now.length c0, .slice A1 s0.sure.length c1, .slice (some ⟨g5, 0, none⟩) s0.last.length c2, .slice A3 s0.slast.length c3, .slice (some ⟨g1, 0, none⟩) s0.floors.length c4]) (t := 25) ?hr ?_; (case hd => rfl); (case hg => rfl); (case hr => first | (go_simp; done) | (go_simp; rfl)); intro g2 W13 HG16 BK14 HB15) | ((with_reducible refine gate_dst (N := 3) rfl ?_); refine ev_box ?hg (N := 3) ?hd (cs := #[.int .i64 who, .int .i64 ep, .int .i64 num, .int .i64 obj, .int .i64 at_, .string data]) (t := 63) ?hr ?_; (case hd => rfl); (case hg => rfl); (case hr => first | (go_simp; done) | (go_simp; rfl)); intro g3 W17 HG20 BK18 HB19) | ((with_reducible refine gate_dst (N := 4) rfl ?_); refine ev_box ?hg (N := 4) ?hd (cs := #[.slice none 0 0, .slice none 0 0, .slice none 0 0, .slice none 0 0, .slice none 0 0]) (t := 25) ?hr ?_; (case hd => rfl); (case hg => rfl); (case hr => first | (go_simp; done) | (go_simp; rfl)); intro g4 W21 HG24 BK22 HB23) | ((with_reducible refine gate_dst (N := 7) rfl ?_); refine ev_load rfl (N := 7) rfl rfl (g := g3) rfl (cs := #[.int .i64 who, .int .i64 ep, .int .i64 num, .int .i64 obj, .int .i64 at_, .string data]) (Bk.below BK18.out HB23.out) hu63 rfl (by kernel_rfl) ?_))
  refine (spec_l5Req_c HD.out HQ.out).mono ?_
  rintro e W25 ⟨rfl, hb26⟩
  have HB27 := Aside0.mk hb26
  clear hb26
  go_wp2_with (fail)
  refine start_ (n := 10) (S := fun w' => Bk w' g3 #[.int .i64 who, .int .i64 ep, .int .i64 num, .int .i64 obj, .int .i64 at_, .string data] 63 ∧ Bk w' g2 #[.slice (some ⟨g9, 0, none⟩) s0.now.length c0, .slice A1 s0.sure.length c1, .slice (some ⟨g5, 0, none⟩) s0.last.length c2, .slice A3 s0.slast.length c3, .slice (some ⟨g1, 0, none⟩) s0.floors.length c4] 25 ∧ w'.cell? ⟨g1, who.toNat, none⟩ = some (.int .i64 (rd s0.floors who))) (ds := []) #[false, false, false, false, false, false, false, false, false, false] (by kernel_rfl) rfl rfl ⟨(show Bk W25 g3 #[.int .i64 who, .int .i64 ep, .int .i64 num, .int .i64 obj, .int .i64 at_, .string data] 63 from (Bk.below BK18.out (below_step HB23.out HB27.out))), (show Bk W25 g2 #[.slice (some ⟨g9, 0, none⟩) s0.now.length c0, .slice A1 s0.sure.length c1, .slice (some ⟨g5, 0, none⟩) s0.last.length c2, .slice A3 s0.slast.length c3, .slice (some ⟨g1, 0, none⟩) s0.floors.length c4] 25 from (Bk.below BK14.out (below_step (below_step HB19.out HB23.out) HB27.out))), (StR.floors_cell (StR.below HV0.out (below_step (below_step (below_step HB15.out HB19.out) HB23.out) HB27.out)) HN0.out HN1.out).2.2.1⟩ (fun hHeld => ?_)
  clear hHeld
  refine world_at (w := W25) (below_drew0 _) (fun W28 HB29 => ?_)
  refine pure_ (i := 0) (N := some 12) (v := ?_) (a' := ?_) #[true, false, false, false, false, false, false, false, false, false] rfl rfl (by kernel_rfl) (fun _ _ _ h => h) (Or.inl ⟨by rfl, ?_⟩) ?_ ?_
  rotate_left
  · intro w'
    go_simp
    with_reducible rfl
  rotate_left
  · simp only [Act.put, List.setIfInBounds_toArray, List.set_cons_zero, List.set_cons_succ, i64_w, i32_w]
    rfl
  refine take_ (i := 1) (N := some 13) (v := .int .i64 ep) (a' := ?_) #[true, true, false, false, false, false, false, false, false, false] rfl rfl (by kernel_rfl) (fun _ _ _ h => h) (Or.inl ⟨by rfl, ?_⟩) ⟨(Bk.below BK18.out (below_step (below_step HB23.out HB27.out) HB29.out)), (Bk.below BK14.out (below_step (below_step (below_step HB19.out HB23.out) HB27.out) HB29.out)), (StR.floors_cell (StR.below HV0.out (below_step (below_step (below_step (below_step HB15.out HB19.out) HB23.out) HB27.out) HB29.out)) HN0.out HN1.out).2.2.1⟩ ?_ ?_
  · rintro w' ⟨s0_, s1_, s2_⟩
    have hc_ : w'.cell? ⟨g3, 1, none⟩ = some (.int .i64 ep) := (Bk.cell s0_ 1).trans rfl
    first | (go_simp; done) | (go_simp; with_reducible rfl) | (go_simp; rfl)
  rotate_left
  · simp only [Act.put, List.setIfInBounds_toArray, List.set_cons_zero, List.set_cons_succ, i64_w, i32_w]
    rfl
  refine pure_ (i := 2) (N := some 14) (v := ?_) (a' := ?_) #[true, true, true, false, false, false, false, false, false, false] rfl rfl (by kernel_rfl) (fun _ _ _ h => h) (Or.inl ⟨by rfl, ?_⟩) ?_ ?_
  rotate_left
  · intro w'
    go_simp
    with_reducible rfl
  rotate_left
  · simp only [Act.put, List.setIfInBounds_toArray, List.set_cons_zero, List.set_cons_succ, i64_w, i32_w]
    rfl
  refine take_ (i := 3) (N := some 15) (v := .slice (some ⟨g1, 0, none⟩) s0.floors.length c4) (a' := ?_) #[true, true, true, true, false, false, false, false, false, false] rfl rfl (by kernel_rfl) (fun _ _ _ h => h) (Or.inl ⟨by rfl, ?_⟩) ⟨(Bk.below BK18.out (below_step (below_step HB23.out HB27.out) HB29.out)), (Bk.below BK14.out (below_step (below_step (below_step HB19.out HB23.out) HB27.out) HB29.out)), (StR.floors_cell (StR.below HV0.out (below_step (below_step (below_step (below_step HB15.out HB19.out) HB23.out) HB27.out) HB29.out)) HN0.out HN1.out).2.2.1⟩ ?_ ?_
  · rintro w' ⟨s0_, s1_, s2_⟩
    have hc_ : w'.cell? ⟨g2, 4, none⟩ = some (.slice (some ⟨g1, 0, none⟩) s0.floors.length c4) := (Bk.cell s1_ 4).trans rfl
    first | (go_simp; done) | (go_simp; with_reducible rfl) | (go_simp; rfl)
  rotate_left
  · simp only [Act.put, List.setIfInBounds_toArray, List.set_cons_zero, List.set_cons_succ, i64_w, i32_w]
    rfl
  refine pure_ (i := 4) (N := some 16) (v := ?_) (a' := ?_) #[true, true, true, true, true, false, false, false, false, false] rfl rfl (by kernel_rfl) (fun _ _ _ h => h) (Or.inl ⟨by rfl, ?_⟩) ?_ ?_
  rotate_left
  · intro w'
    go_simp
    with_reducible rfl
  rotate_left
  · simp only [Act.put, List.setIfInBounds_toArray, List.set_cons_zero, List.set_cons_succ, i64_w, i32_w]
    rfl
  refine take_ (i := 5) (N := some 17) (v := .int .i64 who) (a' := ?_) #[true, true, true, true, true, true, false, false, false, false] rfl rfl (by kernel_rfl) (fun _ _ _ h => h) (Or.inl ⟨by rfl, ?_⟩) ⟨(Bk.below BK18.out (below_step (below_step HB23.out HB27.out) HB29.out)), (Bk.below BK14.out (below_step (below_step (below_step HB19.out HB23.out) HB27.out) HB29.out)), (StR.floors_cell (StR.below HV0.out (below_step (below_step (below_step (below_step HB15.out HB19.out) HB23.out) HB27.out) HB29.out)) HN0.out HN1.out).2.2.1⟩ ?_ ?_
  · rintro w' ⟨s0_, s1_, s2_⟩
    have hc_ : w'.cell? ⟨g3, 0, none⟩ = some (.int .i64 who) := (Bk.cell s0_ 0).trans rfl
    first | (go_simp; done) | (go_simp; with_reducible rfl) | (go_simp; rfl)
  rotate_left
  · simp only [Act.put, List.setIfInBounds_toArray, List.set_cons_zero, List.set_cons_succ, i64_w, i32_w]
    rfl
  refine pure_ (i := 6) (N := some 18) (v := ?_) (a' := ?_) #[true, true, true, true, true, true, true, false, false, false] rfl rfl (by kernel_rfl) (fun _ _ _ h => h) (Or.inl ⟨by rfl, ?_⟩) ?_ ?_
  rotate_left
  · intro w'
    go_simp
    with_reducible rfl
  rotate_left
  · simp only [Act.put, List.setIfInBounds_toArray, List.set_cons_zero, List.set_cons_succ, i64_w, i32_w]
    rfl
  refine take_ (i := 7) (N := some 19) (v := .int .i64 (rd s0.floors who)) (a' := ?_) #[true, true, true, true, true, true, true, true, false, false] rfl rfl (by kernel_rfl) (fun _ _ _ h => h) (Or.inl ⟨by rfl, ?_⟩) ⟨(Bk.below BK18.out (below_step (below_step HB23.out HB27.out) HB29.out)), (Bk.below BK14.out (below_step (below_step (below_step HB19.out HB23.out) HB27.out) HB29.out)), (StR.floors_cell (StR.below HV0.out (below_step (below_step (below_step (below_step HB15.out HB19.out) HB23.out) HB27.out) HB29.out)) HN0.out HN1.out).2.2.1⟩ ?_ ?_
  · rintro w' ⟨s0_, s1_, s2_⟩
    first | (go_simp; done) | (go_simp; with_reducible rfl) | (go_simp; rfl)
  rotate_left
  · simp only [Act.put, List.setIfInBounds_toArray, List.set_cons_zero, List.set_cons_succ, i64_w, i32_w]
    rfl
  refine pure_ (i := 8) (N := some 20) (v := ?_) (a' := ?_) #[true, true, true, true, true, true, true, true, true, false] rfl rfl (by kernel_rfl) (fun _ _ _ h => h) (Or.inl ⟨by rfl, ?_⟩) ?_ ?_
  rotate_left
  · intro w'
    go_simp
    with_reducible rfl
  rotate_left
  · simp only [Act.put, List.setIfInBounds_toArray, List.set_cons_zero, List.set_cons_succ, i64_w, i32_w]
    rfl
  refine pure_ (i := 9) (N := some 11) (v := ?_) (a' := ?_) #[true, true, true, true, true, true, true, true, true, true] rfl rfl (by kernel_rfl) (fun _ _ _ h => h) (Or.inl ⟨by rfl, ?_⟩) ?_ ?_
  rotate_left
  · intro w'
    go_simp
    with_reducible rfl
  rotate_left
  · simp only [Act.put, List.setIfInBounds_toArray, List.set_cons_zero, List.set_cons_succ, i64_w, i32_w]
    rfl
  refine done_ (by kernel_rfl) ?_
  go_wp2_with (first | ((with_reducible refine gate_dst (N := 21) rfl ?_); refine ev_load rfl (N := 21) rfl rfl (g := g2) rfl (cs := #[.slice (some ⟨g9, 0, none⟩) s0.now.length c0, .slice A1 s0.sure.length c1, .slice (some ⟨g5, 0, none⟩) s0.last.length c2, .slice A3 s0.slast.length c3, .slice (some ⟨g1, 0, none⟩) s0.floors.length c4]) (Bk.below BK14.out (below_step (below_step (below_step HB19.out HB23.out) HB27.out) HB29.out)) hu25 rfl (by kernel_rfl) ?_) | ((with_reducible refine gate_store (t := 25) (p := 4) rfl ?_); refine ev_put (by rfl) rfl rfl (g := g4) rfl (cs := #[.slice (some ⟨g9, 0, none⟩) s0.now.length c0, .slice A1 s0.sure.length c1, .slice (some ⟨g5, 0, none⟩) s0.last.length c2, .slice A3 s0.slast.length c3, .slice (some ⟨g1, 0, none⟩) s0.floors.length c4]) rfl (Bk.below BK22.out (below_step HB27.out HB29.out)) (by kernel_rfl) rfl rfl ?_; intro W30 BK31 HB32 HK33; have z0_ := HLO.out; have z1_ := HHI.out; have z2_ := HB0.out.size; have z3_ := GT2.out; have z4_ := GL3.out; have z5_ := GH4.out; have z6_ := GT6.out; have z7_ := GL7.out; have z8_ := GH8.out; have z9_ := GT10.out; have z10_ := GL11.out; have z11_ := GH12.out; have z12_ := HB15.out.size; have z13_ := HG16.out; have z14_ := BK14.out.lt; have z15_ := HB19.out.size; have z16_ := HG20.out; have z17_ := BK18.out.lt; have z18_ := HB23.out.size; have z19_ := HG24.out; have z20_ := BK22.out.lt; have z21_ := HB27.out.size; have z22_ := HB29.out.size; have HB34 := Aside0.mk (below_at (below_step HB0.out (below_step (below_step (below_step (below_step HB15.out HB19.out) HB23.out) HB27.out) HB29.out)) HB32.out (by show w0.heap.size ≤ g4; omega)); have HK35 := Aside0.mk (HK33.out); have KP36 := Aside0.mk (kept_new (Kept.below KP0.out (below_step (below_step (below_step (below_step HB15.out HB19.out) HB23.out) HB27.out) HB29.out)) HK35.out (by show w.heap.size ≤ g4; omega)); have F37 := Aside0.mk (StR.kept (StR.below HV0.out (below_step (below_step (below_step (below_step HB15.out HB19.out) HB23.out) HB27.out) HB29.out)) HK35.out (fun k_ h_ => (by obtain ⟨h1_, h2_⟩ := h_; omega))); have F38 := Aside0.mk (Bk.kept (Bk.below BK14.out (below_step (below_step (below_step HB19.out HB23.out) HB27.out) HB29.out)) HK35.out (fun h_ => (by obtain ⟨h1_, h2_⟩ := h_; omega))); have F39 := Aside0.mk (Bk.kept (Bk.below BK18.out (below_step (below_step HB23.out HB27.out) HB29.out)) HK35.out (fun h_ => (by obtain ⟨h1_, h2_⟩ := h_; omega))); have F40 := Aside0.mk (BK31.out); clear z0_ z1_ z2_ z3_ z4_ z5_ z6_ z7_ z8_ z9_ z10_ z11_ z12_ z13_ z14_ z15_ z16_ z17_ z18_ z19_ z20_ z21_ z22_))
  try go_wp2
  refine bodyPost_ret (results_ct rfl _ _ g4 25 #[.slice (some ⟨g9, 0, none⟩) s0.now.length c0, .slice A1 s0.sure.length c1, .slice (some ⟨g5, 0, none⟩) s0.last.length c2, .slice A3 s0.slast.length c3, .slice (some ⟨g1, 0, none⟩) s0.floors.length c4] (0, 0) _ rfl F40.out hu25 rfl (by kernel_rfl)) rfl ?_
  exact ⟨rfl, F37.out, HB34.out, KP36.out⟩
set_option maxHeartbeats 8000000 in
set_option maxRecDepth 100000 in
theorem spec_l5Do_p3 {w0 w : World} {v0 : Value} {s0 : St} {lo hi : Nat} (hB : Below w0.heap.size w0 w) (hv0 : StR w lo hi v0 s0) (hlo : w0.heap.size ≤ lo) (hhi : hi ≤ w.heap.size) (who ep num obj at_ : Int) (data : ByteArray) (hd : data.size ≤ 9223372036854775807) (b0 : 0 ≤ who) (b1 : who < s0.floors.length) (b2 : who < s0.last.length) (b3 : 0 ≤ obj) (b4 : obj < s0.now.length) (b5 : textOk (rdOf ByteArray.empty s0.now obj) = true) (hq : reqOk ⟨who, ep, num, obj, at_, data⟩ = true) (h1 : ¬ ep < rd s0.floors who) (h2 : num ≤ rd s0.last who) :
    Calls Try.prog 69 #[v0, .agg #[.int .i64 who, .int .i64 ep, .int .i64 num, .int .i64 obj, .int .i64 at_, .string data]] w fun e w' => e = .returned (.tuple #[v0, .int .i64 3]) ∧ StR w' lo hi v0 s0 ∧ Below w0.heap.size w0 w' ∧ Kept w w' (fun k => lo ≤ k ∧ k < hi) := by
  have HB0 := Aside0.mk hB
  have HLO := Aside0.mk hlo
  have HHI := Aside0.mk hhi
  have HV0 := Aside0.mk hv0
  obtain ⟨A0, c0, A1, c1, A2, c2, A3, c3, A4, c4, rfl, _⟩ := hv0.toC
  have KP0 := Aside0.mk (Kept.refl w (fun k => lo ≤ k ∧ k < hi))
  clear hB hlo hhi hv0
  have hd1 : decide (ep < rd s0.floors who) = false := decide_eq_false h1
  have hd2 : decide (num ≤ rd s0.last who) = true := decide_eq_true h2
  clear h1 h2
  have hb0 := eq_true b0
  have HN0 := Aside0.mk b0
  have hb1 := eq_true b1
  have HN1 := Aside0.mk b1
  have hb2 := eq_true b2
  have HN2 := Aside0.mk b2
  have hb3 := eq_true b3
  have HN3 := Aside0.mk b3
  have hb4 := eq_true b4
  have HN4 := Aside0.mk b4
  have HN5 := Aside0.mk b5
  clear b0 b1 b2 b3 b4 b5
  have HD := Aside0.mk hd
  have HQ := Aside0.mk hq
  clear hd hq
  obtain ⟨g1, rfl⟩ := StR.floors_form HV0.out HN0.out HN1.out; have GT2 := Aside0.mk (StR.floors_lt HV0.out); have GL3 := Aside0.mk (StR.floors_cell HV0.out HN0.out HN1.out).1; have GH4 := Aside0.mk (StR.floors_cell HV0.out HN0.out HN1.out).2.1
  obtain ⟨g5, rfl⟩ := StR.last_form HV0.out HN0.out HN2.out; have GT6 := Aside0.mk (StR.last_lt HV0.out); have GL7 := Aside0.mk (StR.last_cell HV0.out HN0.out HN2.out).1; have GH8 := Aside0.mk (StR.last_cell HV0.out HN0.out HN2.out).2.1
  obtain ⟨g9, rfl⟩ := StR.now_form HV0.out HN3.out HN4.out; have GT10 := Aside0.mk (StR.now_lt HV0.out); have GL11 := Aside0.mk (StR.now_cell HV0.out HN3.out HN4.out).1; have GH12 := Aside0.mk (StR.now_cell HV0.out HN3.out HN4.out).2.1
  have hu25 := Try.underlying25
  have hu63 := Try.underlying63
  go_enter Try.func69, Try.ntmps69
  go_wp2_with (first | ((with_reducible refine gate_dst (N := 2) rfl ?_); refine ev_box ?hg (N := 2) ?hd (cs := #[.slice (some ⟨g9, 0, none⟩) s0.now.length c0, .slice A1 s0.sure.length c1, .slice (some ⟨g5, 0, none⟩) s0.last.length c2, .slice A3 s0.slast.length c3, .slice (some ⟨g1, 0, none⟩) s0.floors.length c4]) (t := 25) ?hr ?_; (case hd => rfl); (case hg => rfl); (case hr => first | (go_simp; done) | (go_simp; rfl)); intro g2 W13 HG16 BK14 HB15) | ((with_reducible refine gate_dst (N := 3) rfl ?_); refine ev_box ?hg (N := 3) ?hd (cs := #[.int .i64 who, .int .i64 ep, .int .i64 num, .int .i64 obj, .int .i64 at_, .string data]) (t := 63) ?hr ?_; (case hd => rfl); (case hg => rfl); (case hr => first | (go_simp; done) | (go_simp; rfl)); intro g3 W17 HG20 BK18 HB19) | ((with_reducible refine gate_dst (N := 4) rfl ?_); refine ev_box ?hg (N := 4) ?hd (cs := #[.slice none 0 0, .slice none 0 0, .slice none 0 0, .slice none 0 0, .slice none 0 0]) (t := 25) ?hr ?_; (case hd => rfl); (case hg => rfl); (case hr => first | (go_simp; done) | (go_simp; rfl)); intro g4 W21 HG24 BK22 HB23) | ((with_reducible refine gate_dst (N := 7) rfl ?_); refine ev_load rfl (N := 7) rfl rfl (g := g3) rfl (cs := #[.int .i64 who, .int .i64 ep, .int .i64 num, .int .i64 obj, .int .i64 at_, .string data]) (Bk.below BK18.out HB23.out) hu63 rfl (by kernel_rfl) ?_))
  refine (spec_l5Req_c HD.out HQ.out).mono ?_
  rintro e W25 ⟨rfl, hb26⟩
  have HB27 := Aside0.mk hb26
  clear hb26
  go_wp2_with (fail)
  refine start_ (n := 10) (S := fun w' => Bk w' g3 #[.int .i64 who, .int .i64 ep, .int .i64 num, .int .i64 obj, .int .i64 at_, .string data] 63 ∧ Bk w' g2 #[.slice (some ⟨g9, 0, none⟩) s0.now.length c0, .slice A1 s0.sure.length c1, .slice (some ⟨g5, 0, none⟩) s0.last.length c2, .slice A3 s0.slast.length c3, .slice (some ⟨g1, 0, none⟩) s0.floors.length c4] 25 ∧ w'.cell? ⟨g1, who.toNat, none⟩ = some (.int .i64 (rd s0.floors who))) (ds := []) #[false, false, false, false, false, false, false, false, false, false] (by kernel_rfl) rfl rfl ⟨(show Bk W25 g3 #[.int .i64 who, .int .i64 ep, .int .i64 num, .int .i64 obj, .int .i64 at_, .string data] 63 from (Bk.below BK18.out (below_step HB23.out HB27.out))), (show Bk W25 g2 #[.slice (some ⟨g9, 0, none⟩) s0.now.length c0, .slice A1 s0.sure.length c1, .slice (some ⟨g5, 0, none⟩) s0.last.length c2, .slice A3 s0.slast.length c3, .slice (some ⟨g1, 0, none⟩) s0.floors.length c4] 25 from (Bk.below BK14.out (below_step (below_step HB19.out HB23.out) HB27.out))), (StR.floors_cell (StR.below HV0.out (below_step (below_step (below_step HB15.out HB19.out) HB23.out) HB27.out)) HN0.out HN1.out).2.2.1⟩ (fun hHeld => ?_)
  clear hHeld
  refine world_at (w := W25) (below_drew0 _) (fun W28 HB29 => ?_)
  refine pure_ (i := 0) (N := some 12) (v := ?_) (a' := ?_) #[true, false, false, false, false, false, false, false, false, false] rfl rfl (by kernel_rfl) (fun _ _ _ h => h) (Or.inl ⟨by rfl, ?_⟩) ?_ ?_
  rotate_left
  · intro w'
    go_simp
    with_reducible rfl
  rotate_left
  · simp only [Act.put, List.setIfInBounds_toArray, List.set_cons_zero, List.set_cons_succ, i64_w, i32_w]
    rfl
  refine take_ (i := 1) (N := some 13) (v := .int .i64 ep) (a' := ?_) #[true, true, false, false, false, false, false, false, false, false] rfl rfl (by kernel_rfl) (fun _ _ _ h => h) (Or.inl ⟨by rfl, ?_⟩) ⟨(Bk.below BK18.out (below_step (below_step HB23.out HB27.out) HB29.out)), (Bk.below BK14.out (below_step (below_step (below_step HB19.out HB23.out) HB27.out) HB29.out)), (StR.floors_cell (StR.below HV0.out (below_step (below_step (below_step (below_step HB15.out HB19.out) HB23.out) HB27.out) HB29.out)) HN0.out HN1.out).2.2.1⟩ ?_ ?_
  · rintro w' ⟨s0_, s1_, s2_⟩
    have hc_ : w'.cell? ⟨g3, 1, none⟩ = some (.int .i64 ep) := (Bk.cell s0_ 1).trans rfl
    first | (go_simp; done) | (go_simp; with_reducible rfl) | (go_simp; rfl)
  rotate_left
  · simp only [Act.put, List.setIfInBounds_toArray, List.set_cons_zero, List.set_cons_succ, i64_w, i32_w]
    rfl
  refine pure_ (i := 2) (N := some 14) (v := ?_) (a' := ?_) #[true, true, true, false, false, false, false, false, false, false] rfl rfl (by kernel_rfl) (fun _ _ _ h => h) (Or.inl ⟨by rfl, ?_⟩) ?_ ?_
  rotate_left
  · intro w'
    go_simp
    with_reducible rfl
  rotate_left
  · simp only [Act.put, List.setIfInBounds_toArray, List.set_cons_zero, List.set_cons_succ, i64_w, i32_w]
    rfl
  refine take_ (i := 3) (N := some 15) (v := .slice (some ⟨g1, 0, none⟩) s0.floors.length c4) (a' := ?_) #[true, true, true, true, false, false, false, false, false, false] rfl rfl (by kernel_rfl) (fun _ _ _ h => h) (Or.inl ⟨by rfl, ?_⟩) ⟨(Bk.below BK18.out (below_step (below_step HB23.out HB27.out) HB29.out)), (Bk.below BK14.out (below_step (below_step (below_step HB19.out HB23.out) HB27.out) HB29.out)), (StR.floors_cell (StR.below HV0.out (below_step (below_step (below_step (below_step HB15.out HB19.out) HB23.out) HB27.out) HB29.out)) HN0.out HN1.out).2.2.1⟩ ?_ ?_
  · rintro w' ⟨s0_, s1_, s2_⟩
    have hc_ : w'.cell? ⟨g2, 4, none⟩ = some (.slice (some ⟨g1, 0, none⟩) s0.floors.length c4) := (Bk.cell s1_ 4).trans rfl
    first | (go_simp; done) | (go_simp; with_reducible rfl) | (go_simp; rfl)
  rotate_left
  · simp only [Act.put, List.setIfInBounds_toArray, List.set_cons_zero, List.set_cons_succ, i64_w, i32_w]
    rfl
  refine pure_ (i := 4) (N := some 16) (v := ?_) (a' := ?_) #[true, true, true, true, true, false, false, false, false, false] rfl rfl (by kernel_rfl) (fun _ _ _ h => h) (Or.inl ⟨by rfl, ?_⟩) ?_ ?_
  rotate_left
  · intro w'
    go_simp
    with_reducible rfl
  rotate_left
  · simp only [Act.put, List.setIfInBounds_toArray, List.set_cons_zero, List.set_cons_succ, i64_w, i32_w]
    rfl
  refine take_ (i := 5) (N := some 17) (v := .int .i64 who) (a' := ?_) #[true, true, true, true, true, true, false, false, false, false] rfl rfl (by kernel_rfl) (fun _ _ _ h => h) (Or.inl ⟨by rfl, ?_⟩) ⟨(Bk.below BK18.out (below_step (below_step HB23.out HB27.out) HB29.out)), (Bk.below BK14.out (below_step (below_step (below_step HB19.out HB23.out) HB27.out) HB29.out)), (StR.floors_cell (StR.below HV0.out (below_step (below_step (below_step (below_step HB15.out HB19.out) HB23.out) HB27.out) HB29.out)) HN0.out HN1.out).2.2.1⟩ ?_ ?_
  · rintro w' ⟨s0_, s1_, s2_⟩
    have hc_ : w'.cell? ⟨g3, 0, none⟩ = some (.int .i64 who) := (Bk.cell s0_ 0).trans rfl
    first | (go_simp; done) | (go_simp; with_reducible rfl) | (go_simp; rfl)
  rotate_left
  · simp only [Act.put, List.setIfInBounds_toArray, List.set_cons_zero, List.set_cons_succ, i64_w, i32_w]
    rfl
  refine pure_ (i := 6) (N := some 18) (v := ?_) (a' := ?_) #[true, true, true, true, true, true, true, false, false, false] rfl rfl (by kernel_rfl) (fun _ _ _ h => h) (Or.inl ⟨by rfl, ?_⟩) ?_ ?_
  rotate_left
  · intro w'
    go_simp
    with_reducible rfl
  rotate_left
  · simp only [Act.put, List.setIfInBounds_toArray, List.set_cons_zero, List.set_cons_succ, i64_w, i32_w]
    rfl
  refine take_ (i := 7) (N := some 19) (v := .int .i64 (rd s0.floors who)) (a' := ?_) #[true, true, true, true, true, true, true, true, false, false] rfl rfl (by kernel_rfl) (fun _ _ _ h => h) (Or.inl ⟨by rfl, ?_⟩) ⟨(Bk.below BK18.out (below_step (below_step HB23.out HB27.out) HB29.out)), (Bk.below BK14.out (below_step (below_step (below_step HB19.out HB23.out) HB27.out) HB29.out)), (StR.floors_cell (StR.below HV0.out (below_step (below_step (below_step (below_step HB15.out HB19.out) HB23.out) HB27.out) HB29.out)) HN0.out HN1.out).2.2.1⟩ ?_ ?_
  · rintro w' ⟨s0_, s1_, s2_⟩
    first | (go_simp; done) | (go_simp; with_reducible rfl) | (go_simp; rfl)
  rotate_left
  · simp only [Act.put, List.setIfInBounds_toArray, List.set_cons_zero, List.set_cons_succ, i64_w, i32_w]
    rfl
  refine pure_ (i := 8) (N := some 20) (v := ?_) (a' := ?_) #[true, true, true, true, true, true, true, true, true, false] rfl rfl (by kernel_rfl) (fun _ _ _ h => h) (Or.inl ⟨by rfl, ?_⟩) ?_ ?_
  rotate_left
  · intro w'
    go_simp
    with_reducible rfl
  rotate_left
  · simp only [Act.put, List.setIfInBounds_toArray, List.set_cons_zero, List.set_cons_succ, i64_w, i32_w]
    rfl
  refine pure_ (i := 9) (N := some 11) (v := ?_) (a' := ?_) #[true, true, true, true, true, true, true, true, true, true] rfl rfl (by kernel_rfl) (fun _ _ _ h => h) (Or.inl ⟨by rfl, ?_⟩) ?_ ?_
  rotate_left
  · intro w'
    go_simp
    with_reducible rfl
  rotate_left
  · simp only [Act.put, List.setIfInBounds_toArray, List.set_cons_zero, List.set_cons_succ, i64_w, i32_w]
    rfl
  refine done_ (by kernel_rfl) ?_
  go_wp2_with (fail)
  refine start_ (n := 10) (S := fun w' => Bk w' g3 #[.int .i64 who, .int .i64 ep, .int .i64 num, .int .i64 obj, .int .i64 at_, .string data] 63 ∧ Bk w' g2 #[.slice (some ⟨g9, 0, none⟩) s0.now.length c0, .slice A1 s0.sure.length c1, .slice (some ⟨g5, 0, none⟩) s0.last.length c2, .slice A3 s0.slast.length c3, .slice (some ⟨g1, 0, none⟩) s0.floors.length c4] 25 ∧ w'.cell? ⟨g5, who.toNat, none⟩ = some (.int .i64 (rd s0.last who))) (ds := []) #[false, false, false, false, false, false, false, false, false, false] (by kernel_rfl) rfl rfl ⟨(show Bk W28 g3 #[.int .i64 who, .int .i64 ep, .int .i64 num, .int .i64 obj, .int .i64 at_, .string data] 63 from (Bk.below BK18.out (below_step (below_step HB23.out HB27.out) HB29.out))), (show Bk W28 g2 #[.slice (some ⟨g9, 0, none⟩) s0.now.length c0, .slice A1 s0.sure.length c1, .slice (some ⟨g5, 0, none⟩) s0.last.length c2, .slice A3 s0.slast.length c3, .slice (some ⟨g1, 0, none⟩) s0.floors.length c4] 25 from (Bk.below BK14.out (below_step (below_step (below_step HB19.out HB23.out) HB27.out) HB29.out))), (StR.last_cell (StR.below HV0.out (below_step (below_step (below_step (below_step HB15.out HB19.out) HB23.out) HB27.out) HB29.out)) HN0.out HN2.out).2.2.1⟩ (fun hHeld => ?_)
  clear hHeld
  refine world_at (w := W28) (below_drew0 _) (fun W30 HB31 => ?_)
  refine pure_ (i := 0) (N := some 23) (v := ?_) (a' := ?_) #[true, false, false, false, false, false, false, false, false, false] rfl rfl (by kernel_rfl) (fun _ _ _ h => h) (Or.inl ⟨by rfl, ?_⟩) ?_ ?_
  rotate_left
  · intro w'
    go_simp
    with_reducible rfl
  rotate_left
  · simp only [Act.put, List.setIfInBounds_toArray, List.set_cons_zero, List.set_cons_succ, i64_w, i32_w]
    rfl
  refine take_ (i := 1) (N := some 24) (v := .int .i64 num) (a' := ?_) #[true, true, false, false, false, false, false, false, false, false] rfl rfl (by kernel_rfl) (fun _ _ _ h => h) (Or.inl ⟨by rfl, ?_⟩) ⟨(Bk.below BK18.out (below_step (below_step (below_step HB23.out HB27.out) HB29.out) HB31.out)), (Bk.below BK14.out (below_step (below_step (below_step (below_step HB19.out HB23.out) HB27.out) HB29.out) HB31.out)), (StR.last_cell (StR.below HV0.out (below_step (below_step (below_step (below_step (below_step HB15.out HB19.out) HB23.out) HB27.out) HB29.out) HB31.out)) HN0.out HN2.out).2.2.1⟩ ?_ ?_
  · rintro w' ⟨s0_, s1_, s2_⟩
    have hc_ : w'.cell? ⟨g3, 2, none⟩ = some (.int .i64 num) := (Bk.cell s0_ 2).trans rfl
    first | (go_simp; done) | (go_simp; with_reducible rfl) | (go_simp; rfl)
  rotate_left
  · simp only [Act.put, List.setIfInBounds_toArray, List.set_cons_zero, List.set_cons_succ, i64_w, i32_w]
    rfl
  refine pure_ (i := 2) (N := some 25) (v := ?_) (a' := ?_) #[true, true, true, false, false, false, false, false, false, false] rfl rfl (by kernel_rfl) (fun _ _ _ h => h) (Or.inl ⟨by rfl, ?_⟩) ?_ ?_
  rotate_left
  · intro w'
    go_simp
    with_reducible rfl
  rotate_left
  · simp only [Act.put, List.setIfInBounds_toArray, List.set_cons_zero, List.set_cons_succ, i64_w, i32_w]
    rfl
  refine take_ (i := 3) (N := some 26) (v := .slice (some ⟨g5, 0, none⟩) s0.last.length c2) (a' := ?_) #[true, true, true, true, false, false, false, false, false, false] rfl rfl (by kernel_rfl) (fun _ _ _ h => h) (Or.inl ⟨by rfl, ?_⟩) ⟨(Bk.below BK18.out (below_step (below_step (below_step HB23.out HB27.out) HB29.out) HB31.out)), (Bk.below BK14.out (below_step (below_step (below_step (below_step HB19.out HB23.out) HB27.out) HB29.out) HB31.out)), (StR.last_cell (StR.below HV0.out (below_step (below_step (below_step (below_step (below_step HB15.out HB19.out) HB23.out) HB27.out) HB29.out) HB31.out)) HN0.out HN2.out).2.2.1⟩ ?_ ?_
  · rintro w' ⟨s0_, s1_, s2_⟩
    have hc_ : w'.cell? ⟨g2, 2, none⟩ = some (.slice (some ⟨g5, 0, none⟩) s0.last.length c2) := (Bk.cell s1_ 2).trans rfl
    first | (go_simp; done) | (go_simp; with_reducible rfl) | (go_simp; rfl)
  rotate_left
  · simp only [Act.put, List.setIfInBounds_toArray, List.set_cons_zero, List.set_cons_succ, i64_w, i32_w]
    rfl
  refine pure_ (i := 4) (N := some 27) (v := ?_) (a' := ?_) #[true, true, true, true, true, false, false, false, false, false] rfl rfl (by kernel_rfl) (fun _ _ _ h => h) (Or.inl ⟨by rfl, ?_⟩) ?_ ?_
  rotate_left
  · intro w'
    go_simp
    with_reducible rfl
  rotate_left
  · simp only [Act.put, List.setIfInBounds_toArray, List.set_cons_zero, List.set_cons_succ, i64_w, i32_w]
    rfl
  refine take_ (i := 5) (N := some 28) (v := .int .i64 who) (a' := ?_) #[true, true, true, true, true, true, false, false, false, false] rfl rfl (by kernel_rfl) (fun _ _ _ h => h) (Or.inl ⟨by rfl, ?_⟩) ⟨(Bk.below BK18.out (below_step (below_step (below_step HB23.out HB27.out) HB29.out) HB31.out)), (Bk.below BK14.out (below_step (below_step (below_step (below_step HB19.out HB23.out) HB27.out) HB29.out) HB31.out)), (StR.last_cell (StR.below HV0.out (below_step (below_step (below_step (below_step (below_step HB15.out HB19.out) HB23.out) HB27.out) HB29.out) HB31.out)) HN0.out HN2.out).2.2.1⟩ ?_ ?_
  · rintro w' ⟨s0_, s1_, s2_⟩
    have hc_ : w'.cell? ⟨g3, 0, none⟩ = some (.int .i64 who) := (Bk.cell s0_ 0).trans rfl
    first | (go_simp; done) | (go_simp; with_reducible rfl) | (go_simp; rfl)
  rotate_left
  · simp only [Act.put, List.setIfInBounds_toArray, List.set_cons_zero, List.set_cons_succ, i64_w, i32_w]
    rfl
  refine pure_ (i := 6) (N := some 29) (v := ?_) (a' := ?_) #[true, true, true, true, true, true, true, false, false, false] rfl rfl (by kernel_rfl) (fun _ _ _ h => h) (Or.inl ⟨by rfl, ?_⟩) ?_ ?_
  rotate_left
  · intro w'
    go_simp
    with_reducible rfl
  rotate_left
  · simp only [Act.put, List.setIfInBounds_toArray, List.set_cons_zero, List.set_cons_succ, i64_w, i32_w]
    rfl
  refine take_ (i := 7) (N := some 30) (v := .int .i64 (rd s0.last who)) (a' := ?_) #[true, true, true, true, true, true, true, true, false, false] rfl rfl (by kernel_rfl) (fun _ _ _ h => h) (Or.inl ⟨by rfl, ?_⟩) ⟨(Bk.below BK18.out (below_step (below_step (below_step HB23.out HB27.out) HB29.out) HB31.out)), (Bk.below BK14.out (below_step (below_step (below_step (below_step HB19.out HB23.out) HB27.out) HB29.out) HB31.out)), (StR.last_cell (StR.below HV0.out (below_step (below_step (below_step (below_step (below_step HB15.out HB19.out) HB23.out) HB27.out) HB29.out) HB31.out)) HN0.out HN2.out).2.2.1⟩ ?_ ?_
  · rintro w' ⟨s0_, s1_, s2_⟩
    first | (go_simp; done) | (go_simp; with_reducible rfl) | (go_simp; rfl)
  rotate_left
  · simp only [Act.put, List.setIfInBounds_toArray, List.set_cons_zero, List.set_cons_succ, i64_w, i32_w]
    rfl
  refine pure_ (i := 8) (N := some 31) (v := ?_) (a' := ?_) #[true, true, true, true, true, true, true, true, true, false] rfl rfl (by kernel_rfl) (fun _ _ _ h => h) (Or.inl ⟨by rfl, ?_⟩) ?_ ?_
  rotate_left
  · intro w'
    go_simp
    with_reducible rfl
  rotate_left
  · simp only [Act.put, List.setIfInBounds_toArray, List.set_cons_zero, List.set_cons_succ, i64_w, i32_w]
    rfl
  refine pure_ (i := 9) (N := some 22) (v := ?_) (a' := ?_) #[true, true, true, true, true, true, true, true, true, true] rfl rfl (by kernel_rfl) (fun _ _ _ h => h) (Or.inl ⟨by rfl, ?_⟩) ?_ ?_
  rotate_left
  · intro w'
    go_simp
    with_reducible rfl
  rotate_left
  · simp only [Act.put, List.setIfInBounds_toArray, List.set_cons_zero, List.set_cons_succ, i64_w, i32_w]
    rfl
  refine done_ (by kernel_rfl) ?_
  go_wp2_with (first | ((with_reducible refine gate_dst (N := 32) rfl ?_); refine ev_load rfl (N := 32) rfl rfl (g := g2) rfl (cs := #[.slice (some ⟨g9, 0, none⟩) s0.now.length c0, .slice A1 s0.sure.length c1, .slice (some ⟨g5, 0, none⟩) s0.last.length c2, .slice A3 s0.slast.length c3, .slice (some ⟨g1, 0, none⟩) s0.floors.length c4]) (Bk.below BK14.out (below_step (below_step (below_step (below_step HB19.out HB23.out) HB27.out) HB29.out) HB31.out)) hu25 rfl (by kernel_rfl) ?_) | ((with_reducible refine gate_store (t := 25) (p := 4) rfl ?_); refine ev_put (by rfl) rfl rfl (g := g4) rfl (cs := #[.slice (some ⟨g9, 0, none⟩) s0.now.length c0, .slice A1 s0.sure.length c1, .slice (some ⟨g5, 0, none⟩) s0.last.length c2, .slice A3 s0.slast.length c3, .slice (some ⟨g1, 0, none⟩) s0.floors.length c4]) rfl (Bk.below BK22.out (below_step (below_step HB27.out HB29.out) HB31.out)) (by kernel_rfl) rfl rfl ?_; intro W32 BK33 HB34 HK35; have z0_ := HLO.out; have z1_ := HHI.out; have z2_ := HB0.out.size; have z3_ := GT2.out; have z4_ := GL3.out; have z5_ := GH4.out; have z6_ := GT6.out; have z7_ := GL7.out; have z8_ := GH8.out; have z9_ := GT10.out; have z10_ := GL11.out; have z11_ := GH12.out; have z12_ := HB15.out.size; have z13_ := HG16.out; have z14_ := BK14.out.lt; have z15_ := HB19.out.size; have z16_ := HG20.out; have z17_ := BK18.out.lt; have z18_ := HB23.out.size; have z19_ := HG24.out; have z20_ := BK22.out.lt; have z21_ := HB27.out.size; have z22_ := HB29.out.size; have z23_ := HB31.out.size; have HB36 := Aside0.mk (below_at (below_step HB0.out (below_step (below_step (below_step (below_step (below_step HB15.out HB19.out) HB23.out) HB27.out) HB29.out) HB31.out)) HB34.out (by show w0.heap.size ≤ g4; omega)); have HK37 := Aside0.mk (HK35.out); have KP38 := Aside0.mk (kept_new (Kept.below KP0.out (below_step (below_step (below_step (below_step (below_step HB15.out HB19.out) HB23.out) HB27.out) HB29.out) HB31.out)) HK37.out (by show w.heap.size ≤ g4; omega)); have F39 := Aside0.mk (StR.kept (StR.below HV0.out (below_step (below_step (below_step (below_step (below_step HB15.out HB19.out) HB23.out) HB27.out) HB29.out) HB31.out)) HK37.out (fun k_ h_ => (by obtain ⟨h1_, h2_⟩ := h_; omega))); have F40 := Aside0.mk (Bk.kept (Bk.below BK14.out (below_step (below_step (below_step (below_step HB19.out HB23.out) HB27.out) HB29.out) HB31.out)) HK37.out (fun h_ => (by obtain ⟨h1_, h2_⟩ := h_; omega))); have F41 := Aside0.mk (Bk.kept (Bk.below BK18.out (below_step (below_step (below_step HB23.out HB27.out) HB29.out) HB31.out)) HK37.out (fun h_ => (by obtain ⟨h1_, h2_⟩ := h_; omega))); have F42 := Aside0.mk (BK33.out); clear z0_ z1_ z2_ z3_ z4_ z5_ z6_ z7_ z8_ z9_ z10_ z11_ z12_ z13_ z14_ z15_ z16_ z17_ z18_ z19_ z20_ z21_ z22_ z23_))
  try go_wp2
  refine bodyPost_ret (results_ct rfl _ _ g4 25 #[.slice (some ⟨g9, 0, none⟩) s0.now.length c0, .slice A1 s0.sure.length c1, .slice (some ⟨g5, 0, none⟩) s0.last.length c2, .slice A3 s0.slast.length c3, .slice (some ⟨g1, 0, none⟩) s0.floors.length c4] (0, 0) _ rfl F42.out hu25 rfl (by kernel_rfl)) rfl ?_
  exact ⟨rfl, F39.out, HB36.out, KP38.out⟩
set_option maxHeartbeats 8000000 in
set_option maxRecDepth 100000 in
theorem spec_l5Do_p4 {w0 w : World} {v0 : Value} {s0 : St} {lo hi : Nat} (hB : Below w0.heap.size w0 w) (hv0 : StR w lo hi v0 s0) (hlo : w0.heap.size ≤ lo) (hhi : hi ≤ w.heap.size) (who ep num obj at_ : Int) (data : ByteArray) (hd : data.size ≤ 9223372036854775807) (b0 : 0 ≤ who) (b1 : who < s0.floors.length) (b2 : who < s0.last.length) (b3 : 0 ≤ obj) (b4 : obj < s0.now.length) (b5 : textOk (rdOf ByteArray.empty s0.now obj) = true) (hq : reqOk ⟨who, ep, num, obj, at_, data⟩ = true) (h1 : ¬ ep < rd s0.floors who) (h2 : ¬ num ≤ rd s0.last who) {nx : Int} (hnx : wrap64 (rd s0.last who + 1) = nx) (h3 : nx < num) :
    Calls Try.prog 69 #[v0, .agg #[.int .i64 who, .int .i64 ep, .int .i64 num, .int .i64 obj, .int .i64 at_, .string data]] w fun e w' => e = .returned (.tuple #[v0, .int .i64 4]) ∧ StR w' lo hi v0 s0 ∧ Below w0.heap.size w0 w' ∧ Kept w w' (fun k => lo ≤ k ∧ k < hi) := by
  have HB0 := Aside0.mk hB
  have HLO := Aside0.mk hlo
  have HHI := Aside0.mk hhi
  have HV0 := Aside0.mk hv0
  obtain ⟨A0, c0, A1, c1, A2, c2, A3, c3, A4, c4, rfl, _⟩ := hv0.toC
  have KP0 := Aside0.mk (Kept.refl w (fun k => lo ≤ k ∧ k < hi))
  clear hB hlo hhi hv0
  have hd1 : decide (ep < rd s0.floors who) = false := decide_eq_false h1
  have hd2 : decide (num ≤ rd s0.last who) = false := decide_eq_false h2
  have hd3 : decide (nx < num) = true := decide_eq_true h3
  clear h1 h2 h3
  have hb0 := eq_true b0
  have HN0 := Aside0.mk b0
  have hb1 := eq_true b1
  have HN1 := Aside0.mk b1
  have hb2 := eq_true b2
  have HN2 := Aside0.mk b2
  have hb3 := eq_true b3
  have HN3 := Aside0.mk b3
  have hb4 := eq_true b4
  have HN4 := Aside0.mk b4
  have HN5 := Aside0.mk b5
  clear b0 b1 b2 b3 b4 b5
  have HD := Aside0.mk hd
  have HQ := Aside0.mk hq
  clear hd hq
  obtain ⟨g1, rfl⟩ := StR.floors_form HV0.out HN0.out HN1.out; have GT2 := Aside0.mk (StR.floors_lt HV0.out); have GL3 := Aside0.mk (StR.floors_cell HV0.out HN0.out HN1.out).1; have GH4 := Aside0.mk (StR.floors_cell HV0.out HN0.out HN1.out).2.1
  obtain ⟨g5, rfl⟩ := StR.last_form HV0.out HN0.out HN2.out; have GT6 := Aside0.mk (StR.last_lt HV0.out); have GL7 := Aside0.mk (StR.last_cell HV0.out HN0.out HN2.out).1; have GH8 := Aside0.mk (StR.last_cell HV0.out HN0.out HN2.out).2.1
  obtain ⟨g9, rfl⟩ := StR.now_form HV0.out HN3.out HN4.out; have GT10 := Aside0.mk (StR.now_lt HV0.out); have GL11 := Aside0.mk (StR.now_cell HV0.out HN3.out HN4.out).1; have GH12 := Aside0.mk (StR.now_cell HV0.out HN3.out HN4.out).2.1
  have hu25 := Try.underlying25
  have hu63 := Try.underlying63
  go_enter Try.func69, Try.ntmps69
  go_wp2_with (first | ((with_reducible refine gate_dst (N := 2) rfl ?_); refine ev_box ?hg (N := 2) ?hd (cs := #[.slice (some ⟨g9, 0, none⟩) s0.now.length c0, .slice A1 s0.sure.length c1, .slice (some ⟨g5, 0, none⟩) s0.last.length c2, .slice A3 s0.slast.length c3, .slice (some ⟨g1, 0, none⟩) s0.floors.length c4]) (t := 25) ?hr ?_; (case hd => rfl); (case hg => rfl); (case hr => first | (go_simp; done) | (go_simp; rfl)); intro g2 W13 HG16 BK14 HB15) | ((with_reducible refine gate_dst (N := 3) rfl ?_); refine ev_box ?hg (N := 3) ?hd (cs := #[.int .i64 who, .int .i64 ep, .int .i64 num, .int .i64 obj, .int .i64 at_, .string data]) (t := 63) ?hr ?_; (case hd => rfl); (case hg => rfl); (case hr => first | (go_simp; done) | (go_simp; rfl)); intro g3 W17 HG20 BK18 HB19) | ((with_reducible refine gate_dst (N := 4) rfl ?_); refine ev_box ?hg (N := 4) ?hd (cs := #[.slice none 0 0, .slice none 0 0, .slice none 0 0, .slice none 0 0, .slice none 0 0]) (t := 25) ?hr ?_; (case hd => rfl); (case hg => rfl); (case hr => first | (go_simp; done) | (go_simp; rfl)); intro g4 W21 HG24 BK22 HB23) | ((with_reducible refine gate_dst (N := 7) rfl ?_); refine ev_load rfl (N := 7) rfl rfl (g := g3) rfl (cs := #[.int .i64 who, .int .i64 ep, .int .i64 num, .int .i64 obj, .int .i64 at_, .string data]) (Bk.below BK18.out HB23.out) hu63 rfl (by kernel_rfl) ?_))
  refine (spec_l5Req_c HD.out HQ.out).mono ?_
  rintro e W25 ⟨rfl, hb26⟩
  have HB27 := Aside0.mk hb26
  clear hb26
  go_wp2_with (fail)
  refine start_ (n := 10) (S := fun w' => Bk w' g3 #[.int .i64 who, .int .i64 ep, .int .i64 num, .int .i64 obj, .int .i64 at_, .string data] 63 ∧ Bk w' g2 #[.slice (some ⟨g9, 0, none⟩) s0.now.length c0, .slice A1 s0.sure.length c1, .slice (some ⟨g5, 0, none⟩) s0.last.length c2, .slice A3 s0.slast.length c3, .slice (some ⟨g1, 0, none⟩) s0.floors.length c4] 25 ∧ w'.cell? ⟨g1, who.toNat, none⟩ = some (.int .i64 (rd s0.floors who))) (ds := []) #[false, false, false, false, false, false, false, false, false, false] (by kernel_rfl) rfl rfl ⟨(show Bk W25 g3 #[.int .i64 who, .int .i64 ep, .int .i64 num, .int .i64 obj, .int .i64 at_, .string data] 63 from (Bk.below BK18.out (below_step HB23.out HB27.out))), (show Bk W25 g2 #[.slice (some ⟨g9, 0, none⟩) s0.now.length c0, .slice A1 s0.sure.length c1, .slice (some ⟨g5, 0, none⟩) s0.last.length c2, .slice A3 s0.slast.length c3, .slice (some ⟨g1, 0, none⟩) s0.floors.length c4] 25 from (Bk.below BK14.out (below_step (below_step HB19.out HB23.out) HB27.out))), (StR.floors_cell (StR.below HV0.out (below_step (below_step (below_step HB15.out HB19.out) HB23.out) HB27.out)) HN0.out HN1.out).2.2.1⟩ (fun hHeld => ?_)
  clear hHeld
  refine world_at (w := W25) (below_drew0 _) (fun W28 HB29 => ?_)
  refine pure_ (i := 0) (N := some 12) (v := ?_) (a' := ?_) #[true, false, false, false, false, false, false, false, false, false] rfl rfl (by kernel_rfl) (fun _ _ _ h => h) (Or.inl ⟨by rfl, ?_⟩) ?_ ?_
  rotate_left
  · intro w'
    go_simp
    with_reducible rfl
  rotate_left
  · simp only [Act.put, List.setIfInBounds_toArray, List.set_cons_zero, List.set_cons_succ, i64_w, i32_w]
    rfl
  refine take_ (i := 1) (N := some 13) (v := .int .i64 ep) (a' := ?_) #[true, true, false, false, false, false, false, false, false, false] rfl rfl (by kernel_rfl) (fun _ _ _ h => h) (Or.inl ⟨by rfl, ?_⟩) ⟨(Bk.below BK18.out (below_step (below_step HB23.out HB27.out) HB29.out)), (Bk.below BK14.out (below_step (below_step (below_step HB19.out HB23.out) HB27.out) HB29.out)), (StR.floors_cell (StR.below HV0.out (below_step (below_step (below_step (below_step HB15.out HB19.out) HB23.out) HB27.out) HB29.out)) HN0.out HN1.out).2.2.1⟩ ?_ ?_
  · rintro w' ⟨s0_, s1_, s2_⟩
    have hc_ : w'.cell? ⟨g3, 1, none⟩ = some (.int .i64 ep) := (Bk.cell s0_ 1).trans rfl
    first | (go_simp; done) | (go_simp; with_reducible rfl) | (go_simp; rfl)
  rotate_left
  · simp only [Act.put, List.setIfInBounds_toArray, List.set_cons_zero, List.set_cons_succ, i64_w, i32_w]
    rfl
  refine pure_ (i := 2) (N := some 14) (v := ?_) (a' := ?_) #[true, true, true, false, false, false, false, false, false, false] rfl rfl (by kernel_rfl) (fun _ _ _ h => h) (Or.inl ⟨by rfl, ?_⟩) ?_ ?_
  rotate_left
  · intro w'
    go_simp
    with_reducible rfl
  rotate_left
  · simp only [Act.put, List.setIfInBounds_toArray, List.set_cons_zero, List.set_cons_succ, i64_w, i32_w]
    rfl
  refine take_ (i := 3) (N := some 15) (v := .slice (some ⟨g1, 0, none⟩) s0.floors.length c4) (a' := ?_) #[true, true, true, true, false, false, false, false, false, false] rfl rfl (by kernel_rfl) (fun _ _ _ h => h) (Or.inl ⟨by rfl, ?_⟩) ⟨(Bk.below BK18.out (below_step (below_step HB23.out HB27.out) HB29.out)), (Bk.below BK14.out (below_step (below_step (below_step HB19.out HB23.out) HB27.out) HB29.out)), (StR.floors_cell (StR.below HV0.out (below_step (below_step (below_step (below_step HB15.out HB19.out) HB23.out) HB27.out) HB29.out)) HN0.out HN1.out).2.2.1⟩ ?_ ?_
  · rintro w' ⟨s0_, s1_, s2_⟩
    have hc_ : w'.cell? ⟨g2, 4, none⟩ = some (.slice (some ⟨g1, 0, none⟩) s0.floors.length c4) := (Bk.cell s1_ 4).trans rfl
    first | (go_simp; done) | (go_simp; with_reducible rfl) | (go_simp; rfl)
  rotate_left
  · simp only [Act.put, List.setIfInBounds_toArray, List.set_cons_zero, List.set_cons_succ, i64_w, i32_w]
    rfl
  refine pure_ (i := 4) (N := some 16) (v := ?_) (a' := ?_) #[true, true, true, true, true, false, false, false, false, false] rfl rfl (by kernel_rfl) (fun _ _ _ h => h) (Or.inl ⟨by rfl, ?_⟩) ?_ ?_
  rotate_left
  · intro w'
    go_simp
    with_reducible rfl
  rotate_left
  · simp only [Act.put, List.setIfInBounds_toArray, List.set_cons_zero, List.set_cons_succ, i64_w, i32_w]
    rfl
  refine take_ (i := 5) (N := some 17) (v := .int .i64 who) (a' := ?_) #[true, true, true, true, true, true, false, false, false, false] rfl rfl (by kernel_rfl) (fun _ _ _ h => h) (Or.inl ⟨by rfl, ?_⟩) ⟨(Bk.below BK18.out (below_step (below_step HB23.out HB27.out) HB29.out)), (Bk.below BK14.out (below_step (below_step (below_step HB19.out HB23.out) HB27.out) HB29.out)), (StR.floors_cell (StR.below HV0.out (below_step (below_step (below_step (below_step HB15.out HB19.out) HB23.out) HB27.out) HB29.out)) HN0.out HN1.out).2.2.1⟩ ?_ ?_
  · rintro w' ⟨s0_, s1_, s2_⟩
    have hc_ : w'.cell? ⟨g3, 0, none⟩ = some (.int .i64 who) := (Bk.cell s0_ 0).trans rfl
    first | (go_simp; done) | (go_simp; with_reducible rfl) | (go_simp; rfl)
  rotate_left
  · simp only [Act.put, List.setIfInBounds_toArray, List.set_cons_zero, List.set_cons_succ, i64_w, i32_w]
    rfl
  refine pure_ (i := 6) (N := some 18) (v := ?_) (a' := ?_) #[true, true, true, true, true, true, true, false, false, false] rfl rfl (by kernel_rfl) (fun _ _ _ h => h) (Or.inl ⟨by rfl, ?_⟩) ?_ ?_
  rotate_left
  · intro w'
    go_simp
    with_reducible rfl
  rotate_left
  · simp only [Act.put, List.setIfInBounds_toArray, List.set_cons_zero, List.set_cons_succ, i64_w, i32_w]
    rfl
  refine take_ (i := 7) (N := some 19) (v := .int .i64 (rd s0.floors who)) (a' := ?_) #[true, true, true, true, true, true, true, true, false, false] rfl rfl (by kernel_rfl) (fun _ _ _ h => h) (Or.inl ⟨by rfl, ?_⟩) ⟨(Bk.below BK18.out (below_step (below_step HB23.out HB27.out) HB29.out)), (Bk.below BK14.out (below_step (below_step (below_step HB19.out HB23.out) HB27.out) HB29.out)), (StR.floors_cell (StR.below HV0.out (below_step (below_step (below_step (below_step HB15.out HB19.out) HB23.out) HB27.out) HB29.out)) HN0.out HN1.out).2.2.1⟩ ?_ ?_
  · rintro w' ⟨s0_, s1_, s2_⟩
    first | (go_simp; done) | (go_simp; with_reducible rfl) | (go_simp; rfl)
  rotate_left
  · simp only [Act.put, List.setIfInBounds_toArray, List.set_cons_zero, List.set_cons_succ, i64_w, i32_w]
    rfl
  refine pure_ (i := 8) (N := some 20) (v := ?_) (a' := ?_) #[true, true, true, true, true, true, true, true, true, false] rfl rfl (by kernel_rfl) (fun _ _ _ h => h) (Or.inl ⟨by rfl, ?_⟩) ?_ ?_
  rotate_left
  · intro w'
    go_simp
    with_reducible rfl
  rotate_left
  · simp only [Act.put, List.setIfInBounds_toArray, List.set_cons_zero, List.set_cons_succ, i64_w, i32_w]
    rfl
  refine pure_ (i := 9) (N := some 11) (v := ?_) (a' := ?_) #[true, true, true, true, true, true, true, true, true, true] rfl rfl (by kernel_rfl) (fun _ _ _ h => h) (Or.inl ⟨by rfl, ?_⟩) ?_ ?_
  rotate_left
  · intro w'
    go_simp
    with_reducible rfl
  rotate_left
  · simp only [Act.put, List.setIfInBounds_toArray, List.set_cons_zero, List.set_cons_succ, i64_w, i32_w]
    rfl
  refine done_ (by kernel_rfl) ?_
  go_wp2_with (fail)
  refine start_ (n := 10) (S := fun w' => Bk w' g3 #[.int .i64 who, .int .i64 ep, .int .i64 num, .int .i64 obj, .int .i64 at_, .string data] 63 ∧ Bk w' g2 #[.slice (some ⟨g9, 0, none⟩) s0.now.length c0, .slice A1 s0.sure.length c1, .slice (some ⟨g5, 0, none⟩) s0.last.length c2, .slice A3 s0.slast.length c3, .slice (some ⟨g1, 0, none⟩) s0.floors.length c4] 25 ∧ w'.cell? ⟨g5, who.toNat, none⟩ = some (.int .i64 (rd s0.last who))) (ds := []) #[false, false, false, false, false, false, false, false, false, false] (by kernel_rfl) rfl rfl ⟨(show Bk W28 g3 #[.int .i64 who, .int .i64 ep, .int .i64 num, .int .i64 obj, .int .i64 at_, .string data] 63 from (Bk.below BK18.out (below_step (below_step HB23.out HB27.out) HB29.out))), (show Bk W28 g2 #[.slice (some ⟨g9, 0, none⟩) s0.now.length c0, .slice A1 s0.sure.length c1, .slice (some ⟨g5, 0, none⟩) s0.last.length c2, .slice A3 s0.slast.length c3, .slice (some ⟨g1, 0, none⟩) s0.floors.length c4] 25 from (Bk.below BK14.out (below_step (below_step (below_step HB19.out HB23.out) HB27.out) HB29.out))), (StR.last_cell (StR.below HV0.out (below_step (below_step (below_step (below_step HB15.out HB19.out) HB23.out) HB27.out) HB29.out)) HN0.out HN2.out).2.2.1⟩ (fun hHeld => ?_)
  clear hHeld
  refine world_at (w := W28) (below_drew0 _) (fun W30 HB31 => ?_)
  refine pure_ (i := 0) (N := some 23) (v := ?_) (a' := ?_) #[true, false, false, false, false, false, false, false, false, false] rfl rfl (by kernel_rfl) (fun _ _ _ h => h) (Or.inl ⟨by rfl, ?_⟩) ?_ ?_
  rotate_left
  · intro w'
    go_simp
    with_reducible rfl
  rotate_left
  · simp only [Act.put, List.setIfInBounds_toArray, List.set_cons_zero, List.set_cons_succ, i64_w, i32_w]
    rfl
  refine take_ (i := 1) (N := some 24) (v := .int .i64 num) (a' := ?_) #[true, true, false, false, false, false, false, false, false, false] rfl rfl (by kernel_rfl) (fun _ _ _ h => h) (Or.inl ⟨by rfl, ?_⟩) ⟨(Bk.below BK18.out (below_step (below_step (below_step HB23.out HB27.out) HB29.out) HB31.out)), (Bk.below BK14.out (below_step (below_step (below_step (below_step HB19.out HB23.out) HB27.out) HB29.out) HB31.out)), (StR.last_cell (StR.below HV0.out (below_step (below_step (below_step (below_step (below_step HB15.out HB19.out) HB23.out) HB27.out) HB29.out) HB31.out)) HN0.out HN2.out).2.2.1⟩ ?_ ?_
  · rintro w' ⟨s0_, s1_, s2_⟩
    have hc_ : w'.cell? ⟨g3, 2, none⟩ = some (.int .i64 num) := (Bk.cell s0_ 2).trans rfl
    first | (go_simp; done) | (go_simp; with_reducible rfl) | (go_simp; rfl)
  rotate_left
  · simp only [Act.put, List.setIfInBounds_toArray, List.set_cons_zero, List.set_cons_succ, i64_w, i32_w]
    rfl
  refine pure_ (i := 2) (N := some 25) (v := ?_) (a' := ?_) #[true, true, true, false, false, false, false, false, false, false] rfl rfl (by kernel_rfl) (fun _ _ _ h => h) (Or.inl ⟨by rfl, ?_⟩) ?_ ?_
  rotate_left
  · intro w'
    go_simp
    with_reducible rfl
  rotate_left
  · simp only [Act.put, List.setIfInBounds_toArray, List.set_cons_zero, List.set_cons_succ, i64_w, i32_w]
    rfl
  refine take_ (i := 3) (N := some 26) (v := .slice (some ⟨g5, 0, none⟩) s0.last.length c2) (a' := ?_) #[true, true, true, true, false, false, false, false, false, false] rfl rfl (by kernel_rfl) (fun _ _ _ h => h) (Or.inl ⟨by rfl, ?_⟩) ⟨(Bk.below BK18.out (below_step (below_step (below_step HB23.out HB27.out) HB29.out) HB31.out)), (Bk.below BK14.out (below_step (below_step (below_step (below_step HB19.out HB23.out) HB27.out) HB29.out) HB31.out)), (StR.last_cell (StR.below HV0.out (below_step (below_step (below_step (below_step (below_step HB15.out HB19.out) HB23.out) HB27.out) HB29.out) HB31.out)) HN0.out HN2.out).2.2.1⟩ ?_ ?_
  · rintro w' ⟨s0_, s1_, s2_⟩
    have hc_ : w'.cell? ⟨g2, 2, none⟩ = some (.slice (some ⟨g5, 0, none⟩) s0.last.length c2) := (Bk.cell s1_ 2).trans rfl
    first | (go_simp; done) | (go_simp; with_reducible rfl) | (go_simp; rfl)
  rotate_left
  · simp only [Act.put, List.setIfInBounds_toArray, List.set_cons_zero, List.set_cons_succ, i64_w, i32_w]
    rfl
  refine pure_ (i := 4) (N := some 27) (v := ?_) (a' := ?_) #[true, true, true, true, true, false, false, false, false, false] rfl rfl (by kernel_rfl) (fun _ _ _ h => h) (Or.inl ⟨by rfl, ?_⟩) ?_ ?_
  rotate_left
  · intro w'
    go_simp
    with_reducible rfl
  rotate_left
  · simp only [Act.put, List.setIfInBounds_toArray, List.set_cons_zero, List.set_cons_succ, i64_w, i32_w]
    rfl
  refine take_ (i := 5) (N := some 28) (v := .int .i64 who) (a' := ?_) #[true, true, true, true, true, true, false, false, false, false] rfl rfl (by kernel_rfl) (fun _ _ _ h => h) (Or.inl ⟨by rfl, ?_⟩) ⟨(Bk.below BK18.out (below_step (below_step (below_step HB23.out HB27.out) HB29.out) HB31.out)), (Bk.below BK14.out (below_step (below_step (below_step (below_step HB19.out HB23.out) HB27.out) HB29.out) HB31.out)), (StR.last_cell (StR.below HV0.out (below_step (below_step (below_step (below_step (below_step HB15.out HB19.out) HB23.out) HB27.out) HB29.out) HB31.out)) HN0.out HN2.out).2.2.1⟩ ?_ ?_
  · rintro w' ⟨s0_, s1_, s2_⟩
    have hc_ : w'.cell? ⟨g3, 0, none⟩ = some (.int .i64 who) := (Bk.cell s0_ 0).trans rfl
    first | (go_simp; done) | (go_simp; with_reducible rfl) | (go_simp; rfl)
  rotate_left
  · simp only [Act.put, List.setIfInBounds_toArray, List.set_cons_zero, List.set_cons_succ, i64_w, i32_w]
    rfl
  refine pure_ (i := 6) (N := some 29) (v := ?_) (a' := ?_) #[true, true, true, true, true, true, true, false, false, false] rfl rfl (by kernel_rfl) (fun _ _ _ h => h) (Or.inl ⟨by rfl, ?_⟩) ?_ ?_
  rotate_left
  · intro w'
    go_simp
    with_reducible rfl
  rotate_left
  · simp only [Act.put, List.setIfInBounds_toArray, List.set_cons_zero, List.set_cons_succ, i64_w, i32_w]
    rfl
  refine take_ (i := 7) (N := some 30) (v := .int .i64 (rd s0.last who)) (a' := ?_) #[true, true, true, true, true, true, true, true, false, false] rfl rfl (by kernel_rfl) (fun _ _ _ h => h) (Or.inl ⟨by rfl, ?_⟩) ⟨(Bk.below BK18.out (below_step (below_step (below_step HB23.out HB27.out) HB29.out) HB31.out)), (Bk.below BK14.out (below_step (below_step (below_step (below_step HB19.out HB23.out) HB27.out) HB29.out) HB31.out)), (StR.last_cell (StR.below HV0.out (below_step (below_step (below_step (below_step (below_step HB15.out HB19.out) HB23.out) HB27.out) HB29.out) HB31.out)) HN0.out HN2.out).2.2.1⟩ ?_ ?_
  · rintro w' ⟨s0_, s1_, s2_⟩
    first | (go_simp; done) | (go_simp; with_reducible rfl) | (go_simp; rfl)
  rotate_left
  · simp only [Act.put, List.setIfInBounds_toArray, List.set_cons_zero, List.set_cons_succ, i64_w, i32_w]
    rfl
  refine pure_ (i := 8) (N := some 31) (v := ?_) (a' := ?_) #[true, true, true, true, true, true, true, true, true, false] rfl rfl (by kernel_rfl) (fun _ _ _ h => h) (Or.inl ⟨by rfl, ?_⟩) ?_ ?_
  rotate_left
  · intro w'
    go_simp
    with_reducible rfl
  rotate_left
  · simp only [Act.put, List.setIfInBounds_toArray, List.set_cons_zero, List.set_cons_succ, i64_w, i32_w]
    rfl
  refine pure_ (i := 9) (N := some 22) (v := ?_) (a' := ?_) #[true, true, true, true, true, true, true, true, true, true] rfl rfl (by kernel_rfl) (fun _ _ _ h => h) (Or.inl ⟨by rfl, ?_⟩) ?_ ?_
  rotate_left
  · intro w'
    go_simp
    with_reducible rfl
  rotate_left
  · simp only [Act.put, List.setIfInBounds_toArray, List.set_cons_zero, List.set_cons_succ, i64_w, i32_w]
    rfl
  refine done_ (by kernel_rfl) ?_
  go_wp2_with (fail)
  refine start_ (n := 11) (S := fun w' => Bk w' g3 #[.int .i64 who, .int .i64 ep, .int .i64 num, .int .i64 obj, .int .i64 at_, .string data] 63 ∧ Bk w' g2 #[.slice (some ⟨g9, 0, none⟩) s0.now.length c0, .slice A1 s0.sure.length c1, .slice (some ⟨g5, 0, none⟩) s0.last.length c2, .slice A3 s0.slast.length c3, .slice (some ⟨g1, 0, none⟩) s0.floors.length c4] 25 ∧ w'.cell? ⟨g5, who.toNat, none⟩ = some (.int .i64 (rd s0.last who))) (ds := []) #[false, false, false, false, false, false, false, false, false, false, false] (by kernel_rfl) rfl rfl ⟨(show Bk W30 g3 #[.int .i64 who, .int .i64 ep, .int .i64 num, .int .i64 obj, .int .i64 at_, .string data] 63 from (Bk.below BK18.out (below_step (below_step (below_step HB23.out HB27.out) HB29.out) HB31.out))), (show Bk W30 g2 #[.slice (some ⟨g9, 0, none⟩) s0.now.length c0, .slice A1 s0.sure.length c1, .slice (some ⟨g5, 0, none⟩) s0.last.length c2, .slice A3 s0.slast.length c3, .slice (some ⟨g1, 0, none⟩) s0.floors.length c4] 25 from (Bk.below BK14.out (below_step (below_step (below_step (below_step HB19.out HB23.out) HB27.out) HB29.out) HB31.out))), (StR.last_cell (StR.below HV0.out (below_step (below_step (below_step (below_step (below_step HB15.out HB19.out) HB23.out) HB27.out) HB29.out) HB31.out)) HN0.out HN2.out).2.2.1⟩ (fun hHeld => ?_)
  clear hHeld
  refine world_at (w := W30) (below_drew0 _) (fun W32 HB33 => ?_)
  refine pure_ (i := 0) (N := some 34) (v := ?_) (a' := ?_) #[true, false, false, false, false, false, false, false, false, false, false] rfl rfl (by kernel_rfl) (fun _ _ _ h => h) (Or.inl ⟨by rfl, ?_⟩) ?_ ?_
  rotate_left
  · intro w'
    go_simp
    with_reducible rfl
  rotate_left
  · simp only [Act.put, List.setIfInBounds_toArray, List.set_cons_zero, List.set_cons_succ, i64_w, i32_w]
    rfl
  refine take_ (i := 1) (N := some 35) (v := .int .i64 num) (a' := ?_) #[true, true, false, false, false, false, false, false, false, false, false] rfl rfl (by kernel_rfl) (fun _ _ _ h => h) (Or.inl ⟨by rfl, ?_⟩) ⟨(Bk.below BK18.out (below_step (below_step (below_step (below_step HB23.out HB27.out) HB29.out) HB31.out) HB33.out)), (Bk.below BK14.out (below_step (below_step (below_step (below_step (below_step HB19.out HB23.out) HB27.out) HB29.out) HB31.out) HB33.out)), (StR.last_cell (StR.below HV0.out (below_step (below_step (below_step (below_step (below_step (below_step HB15.out HB19.out) HB23.out) HB27.out) HB29.out) HB31.out) HB33.out)) HN0.out HN2.out).2.2.1⟩ ?_ ?_
  · rintro w' ⟨s0_, s1_, s2_⟩
    have hc_ : w'.cell? ⟨g3, 2, none⟩ = some (.int .i64 num) := (Bk.cell s0_ 2).trans rfl
    first | (go_simp; done) | (go_simp; with_reducible rfl) | (go_simp; rfl)
  rotate_left
  · simp only [Act.put, List.setIfInBounds_toArray, List.set_cons_zero, List.set_cons_succ, i64_w, i32_w]
    rfl
  refine pure_ (i := 2) (N := some 36) (v := ?_) (a' := ?_) #[true, true, true, false, false, false, false, false, false, false, false] rfl rfl (by kernel_rfl) (fun _ _ _ h => h) (Or.inl ⟨by rfl, ?_⟩) ?_ ?_
  rotate_left
  · intro w'
    go_simp
    with_reducible rfl
  rotate_left
  · simp only [Act.put, List.setIfInBounds_toArray, List.set_cons_zero, List.set_cons_succ, i64_w, i32_w]
    rfl
  refine take_ (i := 3) (N := some 37) (v := .slice (some ⟨g5, 0, none⟩) s0.last.length c2) (a' := ?_) #[true, true, true, true, false, false, false, false, false, false, false] rfl rfl (by kernel_rfl) (fun _ _ _ h => h) (Or.inl ⟨by rfl, ?_⟩) ⟨(Bk.below BK18.out (below_step (below_step (below_step (below_step HB23.out HB27.out) HB29.out) HB31.out) HB33.out)), (Bk.below BK14.out (below_step (below_step (below_step (below_step (below_step HB19.out HB23.out) HB27.out) HB29.out) HB31.out) HB33.out)), (StR.last_cell (StR.below HV0.out (below_step (below_step (below_step (below_step (below_step (below_step HB15.out HB19.out) HB23.out) HB27.out) HB29.out) HB31.out) HB33.out)) HN0.out HN2.out).2.2.1⟩ ?_ ?_
  · rintro w' ⟨s0_, s1_, s2_⟩
    have hc_ : w'.cell? ⟨g2, 2, none⟩ = some (.slice (some ⟨g5, 0, none⟩) s0.last.length c2) := (Bk.cell s1_ 2).trans rfl
    first | (go_simp; done) | (go_simp; with_reducible rfl) | (go_simp; rfl)
  rotate_left
  · simp only [Act.put, List.setIfInBounds_toArray, List.set_cons_zero, List.set_cons_succ, i64_w, i32_w]
    rfl
  refine pure_ (i := 4) (N := some 38) (v := ?_) (a' := ?_) #[true, true, true, true, true, false, false, false, false, false, false] rfl rfl (by kernel_rfl) (fun _ _ _ h => h) (Or.inl ⟨by rfl, ?_⟩) ?_ ?_
  rotate_left
  · intro w'
    go_simp
    with_reducible rfl
  rotate_left
  · simp only [Act.put, List.setIfInBounds_toArray, List.set_cons_zero, List.set_cons_succ, i64_w, i32_w]
    rfl
  refine take_ (i := 5) (N := some 39) (v := .int .i64 who) (a' := ?_) #[true, true, true, true, true, true, false, false, false, false, false] rfl rfl (by kernel_rfl) (fun _ _ _ h => h) (Or.inl ⟨by rfl, ?_⟩) ⟨(Bk.below BK18.out (below_step (below_step (below_step (below_step HB23.out HB27.out) HB29.out) HB31.out) HB33.out)), (Bk.below BK14.out (below_step (below_step (below_step (below_step (below_step HB19.out HB23.out) HB27.out) HB29.out) HB31.out) HB33.out)), (StR.last_cell (StR.below HV0.out (below_step (below_step (below_step (below_step (below_step (below_step HB15.out HB19.out) HB23.out) HB27.out) HB29.out) HB31.out) HB33.out)) HN0.out HN2.out).2.2.1⟩ ?_ ?_
  · rintro w' ⟨s0_, s1_, s2_⟩
    have hc_ : w'.cell? ⟨g3, 0, none⟩ = some (.int .i64 who) := (Bk.cell s0_ 0).trans rfl
    first | (go_simp; done) | (go_simp; with_reducible rfl) | (go_simp; rfl)
  rotate_left
  · simp only [Act.put, List.setIfInBounds_toArray, List.set_cons_zero, List.set_cons_succ, i64_w, i32_w]
    rfl
  refine pure_ (i := 6) (N := some 40) (v := ?_) (a' := ?_) #[true, true, true, true, true, true, true, false, false, false, false] rfl rfl (by kernel_rfl) (fun _ _ _ h => h) (Or.inl ⟨by rfl, ?_⟩) ?_ ?_
  rotate_left
  · intro w'
    go_simp
    with_reducible rfl
  rotate_left
  · simp only [Act.put, List.setIfInBounds_toArray, List.set_cons_zero, List.set_cons_succ, i64_w, i32_w]
    rfl
  refine take_ (i := 7) (N := some 41) (v := .int .i64 (rd s0.last who)) (a' := ?_) #[true, true, true, true, true, true, true, true, false, false, false] rfl rfl (by kernel_rfl) (fun _ _ _ h => h) (Or.inl ⟨by rfl, ?_⟩) ⟨(Bk.below BK18.out (below_step (below_step (below_step (below_step HB23.out HB27.out) HB29.out) HB31.out) HB33.out)), (Bk.below BK14.out (below_step (below_step (below_step (below_step (below_step HB19.out HB23.out) HB27.out) HB29.out) HB31.out) HB33.out)), (StR.last_cell (StR.below HV0.out (below_step (below_step (below_step (below_step (below_step (below_step HB15.out HB19.out) HB23.out) HB27.out) HB29.out) HB31.out) HB33.out)) HN0.out HN2.out).2.2.1⟩ ?_ ?_
  · rintro w' ⟨s0_, s1_, s2_⟩
    first | (go_simp; done) | (go_simp; with_reducible rfl) | (go_simp; rfl)
  rotate_left
  · simp only [Act.put, List.setIfInBounds_toArray, List.set_cons_zero, List.set_cons_succ, i64_w, i32_w]
    rfl
  refine pure_ (i := 8) (N := some 42) (v := ?_) (a' := ?_) #[true, true, true, true, true, true, true, true, true, false, false] rfl rfl (by kernel_rfl) (fun _ _ _ h => h) (Or.inl ⟨by rfl, ?_⟩) ?_ ?_
  rotate_left
  · intro w'
    go_simp
    with_reducible rfl
  rotate_left
  · simp only [Act.put, List.setIfInBounds_toArray, List.set_cons_zero, List.set_cons_succ, i64_w, i32_w]
    rfl
  refine pure_ (i := 9) (N := some 43) (v := ?_) (a' := ?_) #[true, true, true, true, true, true, true, true, true, true, false] rfl rfl (by kernel_rfl) (fun _ _ _ h => h) (Or.inl ⟨by rfl, ?_⟩) ?_ ?_
  rotate_left
  · intro w'
    go_simp
    with_reducible rfl
  rotate_left
  · simp only [Act.put, List.setIfInBounds_toArray, List.set_cons_zero, List.set_cons_succ, i64_w, i32_w]
    rfl
  refine pure_ (i := 10) (N := some 33) (v := ?_) (a' := ?_) #[true, true, true, true, true, true, true, true, true, true, true] rfl rfl (by kernel_rfl) (fun _ _ _ h => h) (Or.inl ⟨by rfl, ?_⟩) ?_ ?_
  rotate_left
  · intro w'
    go_simp
    with_reducible rfl
  rotate_left
  · simp only [Act.put, List.setIfInBounds_toArray, List.set_cons_zero, List.set_cons_succ, i64_w, i32_w]
    rfl
  refine done_ (by kernel_rfl) ?_
  go_wp2_with (first | ((with_reducible refine gate_dst (N := 44) rfl ?_); refine ev_load rfl (N := 44) rfl rfl (g := g2) rfl (cs := #[.slice (some ⟨g9, 0, none⟩) s0.now.length c0, .slice A1 s0.sure.length c1, .slice (some ⟨g5, 0, none⟩) s0.last.length c2, .slice A3 s0.slast.length c3, .slice (some ⟨g1, 0, none⟩) s0.floors.length c4]) (Bk.below BK14.out (below_step (below_step (below_step (below_step (below_step HB19.out HB23.out) HB27.out) HB29.out) HB31.out) HB33.out)) hu25 rfl (by kernel_rfl) ?_) | ((with_reducible refine gate_store (t := 25) (p := 4) rfl ?_); refine ev_put (by rfl) rfl rfl (g := g4) rfl (cs := #[.slice (some ⟨g9, 0, none⟩) s0.now.length c0, .slice A1 s0.sure.length c1, .slice (some ⟨g5, 0, none⟩) s0.last.length c2, .slice A3 s0.slast.length c3, .slice (some ⟨g1, 0, none⟩) s0.floors.length c4]) rfl (Bk.below BK22.out (below_step (below_step (below_step HB27.out HB29.out) HB31.out) HB33.out)) (by kernel_rfl) rfl rfl ?_; intro W34 BK35 HB36 HK37; have z0_ := HLO.out; have z1_ := HHI.out; have z2_ := HB0.out.size; have z3_ := GT2.out; have z4_ := GL3.out; have z5_ := GH4.out; have z6_ := GT6.out; have z7_ := GL7.out; have z8_ := GH8.out; have z9_ := GT10.out; have z10_ := GL11.out; have z11_ := GH12.out; have z12_ := HB15.out.size; have z13_ := HG16.out; have z14_ := BK14.out.lt; have z15_ := HB19.out.size; have z16_ := HG20.out; have z17_ := BK18.out.lt; have z18_ := HB23.out.size; have z19_ := HG24.out; have z20_ := BK22.out.lt; have z21_ := HB27.out.size; have z22_ := HB29.out.size; have z23_ := HB31.out.size; have z24_ := HB33.out.size; have HB38 := Aside0.mk (below_at (below_step HB0.out (below_step (below_step (below_step (below_step (below_step (below_step HB15.out HB19.out) HB23.out) HB27.out) HB29.out) HB31.out) HB33.out)) HB36.out (by show w0.heap.size ≤ g4; omega)); have HK39 := Aside0.mk (HK37.out); have KP40 := Aside0.mk (kept_new (Kept.below KP0.out (below_step (below_step (below_step (below_step (below_step (below_step HB15.out HB19.out) HB23.out) HB27.out) HB29.out) HB31.out) HB33.out)) HK39.out (by show w.heap.size ≤ g4; omega)); have F41 := Aside0.mk (StR.kept (StR.below HV0.out (below_step (below_step (below_step (below_step (below_step (below_step HB15.out HB19.out) HB23.out) HB27.out) HB29.out) HB31.out) HB33.out)) HK39.out (fun k_ h_ => (by obtain ⟨h1_, h2_⟩ := h_; omega))); have F42 := Aside0.mk (Bk.kept (Bk.below BK14.out (below_step (below_step (below_step (below_step (below_step HB19.out HB23.out) HB27.out) HB29.out) HB31.out) HB33.out)) HK39.out (fun h_ => (by obtain ⟨h1_, h2_⟩ := h_; omega))); have F43 := Aside0.mk (Bk.kept (Bk.below BK18.out (below_step (below_step (below_step (below_step HB23.out HB27.out) HB29.out) HB31.out) HB33.out)) HK39.out (fun h_ => (by obtain ⟨h1_, h2_⟩ := h_; omega))); have F44 := Aside0.mk (BK35.out); clear z0_ z1_ z2_ z3_ z4_ z5_ z6_ z7_ z8_ z9_ z10_ z11_ z12_ z13_ z14_ z15_ z16_ z17_ z18_ z19_ z20_ z21_ z22_ z23_ z24_))
  try go_wp2
  refine bodyPost_ret (results_ct rfl _ _ g4 25 #[.slice (some ⟨g9, 0, none⟩) s0.now.length c0, .slice A1 s0.sure.length c1, .slice (some ⟨g5, 0, none⟩) s0.last.length c2, .slice A3 s0.slast.length c3, .slice (some ⟨g1, 0, none⟩) s0.floors.length c4] (0, 0) _ rfl F44.out hu25 rfl (by kernel_rfl)) rfl ?_
  exact ⟨rfl, F41.out, HB38.out, KP40.out⟩
set_option maxHeartbeats 8000000 in
set_option maxRecDepth 100000 in
theorem spec_l5Do_p5 {w0 w : World} {v0 : Value} {s0 : St} {lo hi : Nat} (hB : Below w0.heap.size w0 w) (hv0 : StR w lo hi v0 s0) (hlo : w0.heap.size ≤ lo) (hhi : hi ≤ w.heap.size) (who ep num obj at_ : Int) (data : ByteArray) (hd : data.size ≤ 9223372036854775807) (b0 : 0 ≤ who) (b1 : who < s0.floors.length) (b2 : who < s0.last.length) (b3 : 0 ≤ obj) (b4 : obj < s0.now.length) (b5 : textOk (rdOf ByteArray.empty s0.now obj) = true) (hq : reqOk ⟨who, ep, num, obj, at_, data⟩ = true) (h1 : ¬ ep < rd s0.floors who) (h2 : ¬ num ≤ rd s0.last who) {nx : Int} (hnx : wrap64 (rd s0.last who + 1) = nx) (h3 : ¬ nx < num) {r : ByteArray} (hr : writeText (rdOf ByteArray.empty s0.now obj) at_.toNat data = r) :
    Calls Try.prog 69 #[v0, .agg #[.int .i64 who, .int .i64 ep, .int .i64 num, .int .i64 obj, .int .i64 at_, .string data]] w fun e w' => e = .returned (.tuple #[v0, .int .i64 0]) ∧ StR w' lo hi v0 { s0 with now := s0.now.set obj.toNat r, last := s0.last.set who.toNat num } ∧ Below w0.heap.size w0 w' ∧ Kept w w' (fun k => lo ≤ k ∧ k < hi) := by
  have HB0 := Aside0.mk hB
  have HLO := Aside0.mk hlo
  have HHI := Aside0.mk hhi
  have HV0 := Aside0.mk hv0
  obtain ⟨A0, c0, A1, c1, A2, c2, A3, c3, A4, c4, rfl, _⟩ := hv0.toC
  have KP0 := Aside0.mk (Kept.refl w (fun k => lo ≤ k ∧ k < hi))
  clear hB hlo hhi hv0
  have hd1 : decide (ep < rd s0.floors who) = false := decide_eq_false h1
  have hd2 : decide (num ≤ rd s0.last who) = false := decide_eq_false h2
  have hd3 : decide (nx < num) = false := decide_eq_false h3
  have HWR := Aside0.mk hr
  clear h1 h2 h3 hr
  have hb0 := eq_true b0
  have HN0 := Aside0.mk b0
  have hb1 := eq_true b1
  have HN1 := Aside0.mk b1
  have hb2 := eq_true b2
  have HN2 := Aside0.mk b2
  have hb3 := eq_true b3
  have HN3 := Aside0.mk b3
  have hb4 := eq_true b4
  have HN4 := Aside0.mk b4
  have HN5 := Aside0.mk b5
  clear b0 b1 b2 b3 b4 b5
  have HD := Aside0.mk hd
  have HQ := Aside0.mk hq
  clear hd hq
  obtain ⟨g1, rfl⟩ := StR.floors_form HV0.out HN0.out HN1.out; have GT2 := Aside0.mk (StR.floors_lt HV0.out); have GL3 := Aside0.mk (StR.floors_cell HV0.out HN0.out HN1.out).1; have GH4 := Aside0.mk (StR.floors_cell HV0.out HN0.out HN1.out).2.1
  obtain ⟨g5, rfl⟩ := StR.last_form HV0.out HN0.out HN2.out; have GT6 := Aside0.mk (StR.last_lt HV0.out); have GL7 := Aside0.mk (StR.last_cell HV0.out HN0.out HN2.out).1; have GH8 := Aside0.mk (StR.last_cell HV0.out HN0.out HN2.out).2.1
  obtain ⟨g9, rfl⟩ := StR.now_form HV0.out HN3.out HN4.out; have GT10 := Aside0.mk (StR.now_lt HV0.out); have GL11 := Aside0.mk (StR.now_cell HV0.out HN3.out HN4.out).1; have GH12 := Aside0.mk (StR.now_cell HV0.out HN3.out HN4.out).2.1
  have hu25 := Try.underlying25
  have hu63 := Try.underlying63
  go_enter Try.func69, Try.ntmps69
  go_wp2_with (first | ((with_reducible refine gate_dst (N := 2) rfl ?_); refine ev_box ?hg (N := 2) ?hd (cs := #[.slice (some ⟨g9, 0, none⟩) s0.now.length c0, .slice A1 s0.sure.length c1, .slice (some ⟨g5, 0, none⟩) s0.last.length c2, .slice A3 s0.slast.length c3, .slice (some ⟨g1, 0, none⟩) s0.floors.length c4]) (t := 25) ?hr ?_; (case hd => rfl); (case hg => rfl); (case hr => first | (go_simp; done) | (go_simp; rfl)); intro g2 W13 HG16 BK14 HB15) | ((with_reducible refine gate_dst (N := 3) rfl ?_); refine ev_box ?hg (N := 3) ?hd (cs := #[.int .i64 who, .int .i64 ep, .int .i64 num, .int .i64 obj, .int .i64 at_, .string data]) (t := 63) ?hr ?_; (case hd => rfl); (case hg => rfl); (case hr => first | (go_simp; done) | (go_simp; rfl)); intro g3 W17 HG20 BK18 HB19) | ((with_reducible refine gate_dst (N := 4) rfl ?_); refine ev_box ?hg (N := 4) ?hd (cs := #[.slice none 0 0, .slice none 0 0, .slice none 0 0, .slice none 0 0, .slice none 0 0]) (t := 25) ?hr ?_; (case hd => rfl); (case hg => rfl); (case hr => first | (go_simp; done) | (go_simp; rfl)); intro g4 W21 HG24 BK22 HB23) | ((with_reducible refine gate_dst (N := 7) rfl ?_); refine ev_load rfl (N := 7) rfl rfl (g := g3) rfl (cs := #[.int .i64 who, .int .i64 ep, .int .i64 num, .int .i64 obj, .int .i64 at_, .string data]) (Bk.below BK18.out HB23.out) hu63 rfl (by kernel_rfl) ?_))
  refine (spec_l5Req_c HD.out HQ.out).mono ?_
  rintro e W25 ⟨rfl, hb26⟩
  have HB27 := Aside0.mk hb26
  clear hb26
  go_wp2_with (fail)
  refine start_ (n := 10) (S := fun w' => Bk w' g3 #[.int .i64 who, .int .i64 ep, .int .i64 num, .int .i64 obj, .int .i64 at_, .string data] 63 ∧ Bk w' g2 #[.slice (some ⟨g9, 0, none⟩) s0.now.length c0, .slice A1 s0.sure.length c1, .slice (some ⟨g5, 0, none⟩) s0.last.length c2, .slice A3 s0.slast.length c3, .slice (some ⟨g1, 0, none⟩) s0.floors.length c4] 25 ∧ w'.cell? ⟨g1, who.toNat, none⟩ = some (.int .i64 (rd s0.floors who))) (ds := []) #[false, false, false, false, false, false, false, false, false, false] (by kernel_rfl) rfl rfl ⟨(show Bk W25 g3 #[.int .i64 who, .int .i64 ep, .int .i64 num, .int .i64 obj, .int .i64 at_, .string data] 63 from (Bk.below BK18.out (below_step HB23.out HB27.out))), (show Bk W25 g2 #[.slice (some ⟨g9, 0, none⟩) s0.now.length c0, .slice A1 s0.sure.length c1, .slice (some ⟨g5, 0, none⟩) s0.last.length c2, .slice A3 s0.slast.length c3, .slice (some ⟨g1, 0, none⟩) s0.floors.length c4] 25 from (Bk.below BK14.out (below_step (below_step HB19.out HB23.out) HB27.out))), (StR.floors_cell (StR.below HV0.out (below_step (below_step (below_step HB15.out HB19.out) HB23.out) HB27.out)) HN0.out HN1.out).2.2.1⟩ (fun hHeld => ?_)
  clear hHeld
  refine world_at (w := W25) (below_drew0 _) (fun W28 HB29 => ?_)
  refine pure_ (i := 0) (N := some 12) (v := ?_) (a' := ?_) #[true, false, false, false, false, false, false, false, false, false] rfl rfl (by kernel_rfl) (fun _ _ _ h => h) (Or.inl ⟨by rfl, ?_⟩) ?_ ?_
  rotate_left
  · intro w'
    go_simp
    with_reducible rfl
  rotate_left
  · simp only [Act.put, List.setIfInBounds_toArray, List.set_cons_zero, List.set_cons_succ, i64_w, i32_w]
    rfl
  refine take_ (i := 1) (N := some 13) (v := .int .i64 ep) (a' := ?_) #[true, true, false, false, false, false, false, false, false, false] rfl rfl (by kernel_rfl) (fun _ _ _ h => h) (Or.inl ⟨by rfl, ?_⟩) ⟨(Bk.below BK18.out (below_step (below_step HB23.out HB27.out) HB29.out)), (Bk.below BK14.out (below_step (below_step (below_step HB19.out HB23.out) HB27.out) HB29.out)), (StR.floors_cell (StR.below HV0.out (below_step (below_step (below_step (below_step HB15.out HB19.out) HB23.out) HB27.out) HB29.out)) HN0.out HN1.out).2.2.1⟩ ?_ ?_
  · rintro w' ⟨s0_, s1_, s2_⟩
    have hc_ : w'.cell? ⟨g3, 1, none⟩ = some (.int .i64 ep) := (Bk.cell s0_ 1).trans rfl
    first | (go_simp; done) | (go_simp; with_reducible rfl) | (go_simp; rfl)
  rotate_left
  · simp only [Act.put, List.setIfInBounds_toArray, List.set_cons_zero, List.set_cons_succ, i64_w, i32_w]
    rfl
  refine pure_ (i := 2) (N := some 14) (v := ?_) (a' := ?_) #[true, true, true, false, false, false, false, false, false, false] rfl rfl (by kernel_rfl) (fun _ _ _ h => h) (Or.inl ⟨by rfl, ?_⟩) ?_ ?_
  rotate_left
  · intro w'
    go_simp
    with_reducible rfl
  rotate_left
  · simp only [Act.put, List.setIfInBounds_toArray, List.set_cons_zero, List.set_cons_succ, i64_w, i32_w]
    rfl
  refine take_ (i := 3) (N := some 15) (v := .slice (some ⟨g1, 0, none⟩) s0.floors.length c4) (a' := ?_) #[true, true, true, true, false, false, false, false, false, false] rfl rfl (by kernel_rfl) (fun _ _ _ h => h) (Or.inl ⟨by rfl, ?_⟩) ⟨(Bk.below BK18.out (below_step (below_step HB23.out HB27.out) HB29.out)), (Bk.below BK14.out (below_step (below_step (below_step HB19.out HB23.out) HB27.out) HB29.out)), (StR.floors_cell (StR.below HV0.out (below_step (below_step (below_step (below_step HB15.out HB19.out) HB23.out) HB27.out) HB29.out)) HN0.out HN1.out).2.2.1⟩ ?_ ?_
  · rintro w' ⟨s0_, s1_, s2_⟩
    have hc_ : w'.cell? ⟨g2, 4, none⟩ = some (.slice (some ⟨g1, 0, none⟩) s0.floors.length c4) := (Bk.cell s1_ 4).trans rfl
    first | (go_simp; done) | (go_simp; with_reducible rfl) | (go_simp; rfl)
  rotate_left
  · simp only [Act.put, List.setIfInBounds_toArray, List.set_cons_zero, List.set_cons_succ, i64_w, i32_w]
    rfl
  refine pure_ (i := 4) (N := some 16) (v := ?_) (a' := ?_) #[true, true, true, true, true, false, false, false, false, false] rfl rfl (by kernel_rfl) (fun _ _ _ h => h) (Or.inl ⟨by rfl, ?_⟩) ?_ ?_
  rotate_left
  · intro w'
    go_simp
    with_reducible rfl
  rotate_left
  · simp only [Act.put, List.setIfInBounds_toArray, List.set_cons_zero, List.set_cons_succ, i64_w, i32_w]
    rfl
  refine take_ (i := 5) (N := some 17) (v := .int .i64 who) (a' := ?_) #[true, true, true, true, true, true, false, false, false, false] rfl rfl (by kernel_rfl) (fun _ _ _ h => h) (Or.inl ⟨by rfl, ?_⟩) ⟨(Bk.below BK18.out (below_step (below_step HB23.out HB27.out) HB29.out)), (Bk.below BK14.out (below_step (below_step (below_step HB19.out HB23.out) HB27.out) HB29.out)), (StR.floors_cell (StR.below HV0.out (below_step (below_step (below_step (below_step HB15.out HB19.out) HB23.out) HB27.out) HB29.out)) HN0.out HN1.out).2.2.1⟩ ?_ ?_
  · rintro w' ⟨s0_, s1_, s2_⟩
    have hc_ : w'.cell? ⟨g3, 0, none⟩ = some (.int .i64 who) := (Bk.cell s0_ 0).trans rfl
    first | (go_simp; done) | (go_simp; with_reducible rfl) | (go_simp; rfl)
  rotate_left
  · simp only [Act.put, List.setIfInBounds_toArray, List.set_cons_zero, List.set_cons_succ, i64_w, i32_w]
    rfl
  refine pure_ (i := 6) (N := some 18) (v := ?_) (a' := ?_) #[true, true, true, true, true, true, true, false, false, false] rfl rfl (by kernel_rfl) (fun _ _ _ h => h) (Or.inl ⟨by rfl, ?_⟩) ?_ ?_
  rotate_left
  · intro w'
    go_simp
    with_reducible rfl
  rotate_left
  · simp only [Act.put, List.setIfInBounds_toArray, List.set_cons_zero, List.set_cons_succ, i64_w, i32_w]
    rfl
  refine take_ (i := 7) (N := some 19) (v := .int .i64 (rd s0.floors who)) (a' := ?_) #[true, true, true, true, true, true, true, true, false, false] rfl rfl (by kernel_rfl) (fun _ _ _ h => h) (Or.inl ⟨by rfl, ?_⟩) ⟨(Bk.below BK18.out (below_step (below_step HB23.out HB27.out) HB29.out)), (Bk.below BK14.out (below_step (below_step (below_step HB19.out HB23.out) HB27.out) HB29.out)), (StR.floors_cell (StR.below HV0.out (below_step (below_step (below_step (below_step HB15.out HB19.out) HB23.out) HB27.out) HB29.out)) HN0.out HN1.out).2.2.1⟩ ?_ ?_
  · rintro w' ⟨s0_, s1_, s2_⟩
    first | (go_simp; done) | (go_simp; with_reducible rfl) | (go_simp; rfl)
  rotate_left
  · simp only [Act.put, List.setIfInBounds_toArray, List.set_cons_zero, List.set_cons_succ, i64_w, i32_w]
    rfl
  refine pure_ (i := 8) (N := some 20) (v := ?_) (a' := ?_) #[true, true, true, true, true, true, true, true, true, false] rfl rfl (by kernel_rfl) (fun _ _ _ h => h) (Or.inl ⟨by rfl, ?_⟩) ?_ ?_
  rotate_left
  · intro w'
    go_simp
    with_reducible rfl
  rotate_left
  · simp only [Act.put, List.setIfInBounds_toArray, List.set_cons_zero, List.set_cons_succ, i64_w, i32_w]
    rfl
  refine pure_ (i := 9) (N := some 11) (v := ?_) (a' := ?_) #[true, true, true, true, true, true, true, true, true, true] rfl rfl (by kernel_rfl) (fun _ _ _ h => h) (Or.inl ⟨by rfl, ?_⟩) ?_ ?_
  rotate_left
  · intro w'
    go_simp
    with_reducible rfl
  rotate_left
  · simp only [Act.put, List.setIfInBounds_toArray, List.set_cons_zero, List.set_cons_succ, i64_w, i32_w]
    rfl
  refine done_ (by kernel_rfl) ?_
  go_wp2_with (fail)
  refine start_ (n := 10) (S := fun w' => Bk w' g3 #[.int .i64 who, .int .i64 ep, .int .i64 num, .int .i64 obj, .int .i64 at_, .string data] 63 ∧ Bk w' g2 #[.slice (some ⟨g9, 0, none⟩) s0.now.length c0, .slice A1 s0.sure.length c1, .slice (some ⟨g5, 0, none⟩) s0.last.length c2, .slice A3 s0.slast.length c3, .slice (some ⟨g1, 0, none⟩) s0.floors.length c4] 25 ∧ w'.cell? ⟨g5, who.toNat, none⟩ = some (.int .i64 (rd s0.last who))) (ds := []) #[false, false, false, false, false, false, false, false, false, false] (by kernel_rfl) rfl rfl ⟨(show Bk W28 g3 #[.int .i64 who, .int .i64 ep, .int .i64 num, .int .i64 obj, .int .i64 at_, .string data] 63 from (Bk.below BK18.out (below_step (below_step HB23.out HB27.out) HB29.out))), (show Bk W28 g2 #[.slice (some ⟨g9, 0, none⟩) s0.now.length c0, .slice A1 s0.sure.length c1, .slice (some ⟨g5, 0, none⟩) s0.last.length c2, .slice A3 s0.slast.length c3, .slice (some ⟨g1, 0, none⟩) s0.floors.length c4] 25 from (Bk.below BK14.out (below_step (below_step (below_step HB19.out HB23.out) HB27.out) HB29.out))), (StR.last_cell (StR.below HV0.out (below_step (below_step (below_step (below_step HB15.out HB19.out) HB23.out) HB27.out) HB29.out)) HN0.out HN2.out).2.2.1⟩ (fun hHeld => ?_)
  clear hHeld
  refine world_at (w := W28) (below_drew0 _) (fun W30 HB31 => ?_)
  refine pure_ (i := 0) (N := some 23) (v := ?_) (a' := ?_) #[true, false, false, false, false, false, false, false, false, false] rfl rfl (by kernel_rfl) (fun _ _ _ h => h) (Or.inl ⟨by rfl, ?_⟩) ?_ ?_
  rotate_left
  · intro w'
    go_simp
    with_reducible rfl
  rotate_left
  · simp only [Act.put, List.setIfInBounds_toArray, List.set_cons_zero, List.set_cons_succ, i64_w, i32_w]
    rfl
  refine take_ (i := 1) (N := some 24) (v := .int .i64 num) (a' := ?_) #[true, true, false, false, false, false, false, false, false, false] rfl rfl (by kernel_rfl) (fun _ _ _ h => h) (Or.inl ⟨by rfl, ?_⟩) ⟨(Bk.below BK18.out (below_step (below_step (below_step HB23.out HB27.out) HB29.out) HB31.out)), (Bk.below BK14.out (below_step (below_step (below_step (below_step HB19.out HB23.out) HB27.out) HB29.out) HB31.out)), (StR.last_cell (StR.below HV0.out (below_step (below_step (below_step (below_step (below_step HB15.out HB19.out) HB23.out) HB27.out) HB29.out) HB31.out)) HN0.out HN2.out).2.2.1⟩ ?_ ?_
  · rintro w' ⟨s0_, s1_, s2_⟩
    have hc_ : w'.cell? ⟨g3, 2, none⟩ = some (.int .i64 num) := (Bk.cell s0_ 2).trans rfl
    first | (go_simp; done) | (go_simp; with_reducible rfl) | (go_simp; rfl)
  rotate_left
  · simp only [Act.put, List.setIfInBounds_toArray, List.set_cons_zero, List.set_cons_succ, i64_w, i32_w]
    rfl
  refine pure_ (i := 2) (N := some 25) (v := ?_) (a' := ?_) #[true, true, true, false, false, false, false, false, false, false] rfl rfl (by kernel_rfl) (fun _ _ _ h => h) (Or.inl ⟨by rfl, ?_⟩) ?_ ?_
  rotate_left
  · intro w'
    go_simp
    with_reducible rfl
  rotate_left
  · simp only [Act.put, List.setIfInBounds_toArray, List.set_cons_zero, List.set_cons_succ, i64_w, i32_w]
    rfl
  refine take_ (i := 3) (N := some 26) (v := .slice (some ⟨g5, 0, none⟩) s0.last.length c2) (a' := ?_) #[true, true, true, true, false, false, false, false, false, false] rfl rfl (by kernel_rfl) (fun _ _ _ h => h) (Or.inl ⟨by rfl, ?_⟩) ⟨(Bk.below BK18.out (below_step (below_step (below_step HB23.out HB27.out) HB29.out) HB31.out)), (Bk.below BK14.out (below_step (below_step (below_step (below_step HB19.out HB23.out) HB27.out) HB29.out) HB31.out)), (StR.last_cell (StR.below HV0.out (below_step (below_step (below_step (below_step (below_step HB15.out HB19.out) HB23.out) HB27.out) HB29.out) HB31.out)) HN0.out HN2.out).2.2.1⟩ ?_ ?_
  · rintro w' ⟨s0_, s1_, s2_⟩
    have hc_ : w'.cell? ⟨g2, 2, none⟩ = some (.slice (some ⟨g5, 0, none⟩) s0.last.length c2) := (Bk.cell s1_ 2).trans rfl
    first | (go_simp; done) | (go_simp; with_reducible rfl) | (go_simp; rfl)
  rotate_left
  · simp only [Act.put, List.setIfInBounds_toArray, List.set_cons_zero, List.set_cons_succ, i64_w, i32_w]
    rfl
  refine pure_ (i := 4) (N := some 27) (v := ?_) (a' := ?_) #[true, true, true, true, true, false, false, false, false, false] rfl rfl (by kernel_rfl) (fun _ _ _ h => h) (Or.inl ⟨by rfl, ?_⟩) ?_ ?_
  rotate_left
  · intro w'
    go_simp
    with_reducible rfl
  rotate_left
  · simp only [Act.put, List.setIfInBounds_toArray, List.set_cons_zero, List.set_cons_succ, i64_w, i32_w]
    rfl
  refine take_ (i := 5) (N := some 28) (v := .int .i64 who) (a' := ?_) #[true, true, true, true, true, true, false, false, false, false] rfl rfl (by kernel_rfl) (fun _ _ _ h => h) (Or.inl ⟨by rfl, ?_⟩) ⟨(Bk.below BK18.out (below_step (below_step (below_step HB23.out HB27.out) HB29.out) HB31.out)), (Bk.below BK14.out (below_step (below_step (below_step (below_step HB19.out HB23.out) HB27.out) HB29.out) HB31.out)), (StR.last_cell (StR.below HV0.out (below_step (below_step (below_step (below_step (below_step HB15.out HB19.out) HB23.out) HB27.out) HB29.out) HB31.out)) HN0.out HN2.out).2.2.1⟩ ?_ ?_
  · rintro w' ⟨s0_, s1_, s2_⟩
    have hc_ : w'.cell? ⟨g3, 0, none⟩ = some (.int .i64 who) := (Bk.cell s0_ 0).trans rfl
    first | (go_simp; done) | (go_simp; with_reducible rfl) | (go_simp; rfl)
  rotate_left
  · simp only [Act.put, List.setIfInBounds_toArray, List.set_cons_zero, List.set_cons_succ, i64_w, i32_w]
    rfl
  refine pure_ (i := 6) (N := some 29) (v := ?_) (a' := ?_) #[true, true, true, true, true, true, true, false, false, false] rfl rfl (by kernel_rfl) (fun _ _ _ h => h) (Or.inl ⟨by rfl, ?_⟩) ?_ ?_
  rotate_left
  · intro w'
    go_simp
    with_reducible rfl
  rotate_left
  · simp only [Act.put, List.setIfInBounds_toArray, List.set_cons_zero, List.set_cons_succ, i64_w, i32_w]
    rfl
  refine take_ (i := 7) (N := some 30) (v := .int .i64 (rd s0.last who)) (a' := ?_) #[true, true, true, true, true, true, true, true, false, false] rfl rfl (by kernel_rfl) (fun _ _ _ h => h) (Or.inl ⟨by rfl, ?_⟩) ⟨(Bk.below BK18.out (below_step (below_step (below_step HB23.out HB27.out) HB29.out) HB31.out)), (Bk.below BK14.out (below_step (below_step (below_step (below_step HB19.out HB23.out) HB27.out) HB29.out) HB31.out)), (StR.last_cell (StR.below HV0.out (below_step (below_step (below_step (below_step (below_step HB15.out HB19.out) HB23.out) HB27.out) HB29.out) HB31.out)) HN0.out HN2.out).2.2.1⟩ ?_ ?_
  · rintro w' ⟨s0_, s1_, s2_⟩
    first | (go_simp; done) | (go_simp; with_reducible rfl) | (go_simp; rfl)
  rotate_left
  · simp only [Act.put, List.setIfInBounds_toArray, List.set_cons_zero, List.set_cons_succ, i64_w, i32_w]
    rfl
  refine pure_ (i := 8) (N := some 31) (v := ?_) (a' := ?_) #[true, true, true, true, true, true, true, true, true, false] rfl rfl (by kernel_rfl) (fun _ _ _ h => h) (Or.inl ⟨by rfl, ?_⟩) ?_ ?_
  rotate_left
  · intro w'
    go_simp
    with_reducible rfl
  rotate_left
  · simp only [Act.put, List.setIfInBounds_toArray, List.set_cons_zero, List.set_cons_succ, i64_w, i32_w]
    rfl
  refine pure_ (i := 9) (N := some 22) (v := ?_) (a' := ?_) #[true, true, true, true, true, true, true, true, true, true] rfl rfl (by kernel_rfl) (fun _ _ _ h => h) (Or.inl ⟨by rfl, ?_⟩) ?_ ?_
  rotate_left
  · intro w'
    go_simp
    with_reducible rfl
  rotate_left
  · simp only [Act.put, List.setIfInBounds_toArray, List.set_cons_zero, List.set_cons_succ, i64_w, i32_w]
    rfl
  refine done_ (by kernel_rfl) ?_
  go_wp2_with (fail)
  refine start_ (n := 11) (S := fun w' => Bk w' g3 #[.int .i64 who, .int .i64 ep, .int .i64 num, .int .i64 obj, .int .i64 at_, .string data] 63 ∧ Bk w' g2 #[.slice (some ⟨g9, 0, none⟩) s0.now.length c0, .slice A1 s0.sure.length c1, .slice (some ⟨g5, 0, none⟩) s0.last.length c2, .slice A3 s0.slast.length c3, .slice (some ⟨g1, 0, none⟩) s0.floors.length c4] 25 ∧ w'.cell? ⟨g5, who.toNat, none⟩ = some (.int .i64 (rd s0.last who))) (ds := []) #[false, false, false, false, false, false, false, false, false, false, false] (by kernel_rfl) rfl rfl ⟨(show Bk W30 g3 #[.int .i64 who, .int .i64 ep, .int .i64 num, .int .i64 obj, .int .i64 at_, .string data] 63 from (Bk.below BK18.out (below_step (below_step (below_step HB23.out HB27.out) HB29.out) HB31.out))), (show Bk W30 g2 #[.slice (some ⟨g9, 0, none⟩) s0.now.length c0, .slice A1 s0.sure.length c1, .slice (some ⟨g5, 0, none⟩) s0.last.length c2, .slice A3 s0.slast.length c3, .slice (some ⟨g1, 0, none⟩) s0.floors.length c4] 25 from (Bk.below BK14.out (below_step (below_step (below_step (below_step HB19.out HB23.out) HB27.out) HB29.out) HB31.out))), (StR.last_cell (StR.below HV0.out (below_step (below_step (below_step (below_step (below_step HB15.out HB19.out) HB23.out) HB27.out) HB29.out) HB31.out)) HN0.out HN2.out).2.2.1⟩ (fun hHeld => ?_)
  clear hHeld
  refine world_at (w := W30) (below_drew0 _) (fun W32 HB33 => ?_)
  refine pure_ (i := 0) (N := some 34) (v := ?_) (a' := ?_) #[true, false, false, false, false, false, false, false, false, false, false] rfl rfl (by kernel_rfl) (fun _ _ _ h => h) (Or.inl ⟨by rfl, ?_⟩) ?_ ?_
  rotate_left
  · intro w'
    go_simp
    with_reducible rfl
  rotate_left
  · simp only [Act.put, List.setIfInBounds_toArray, List.set_cons_zero, List.set_cons_succ, i64_w, i32_w]
    rfl
  refine take_ (i := 1) (N := some 35) (v := .int .i64 num) (a' := ?_) #[true, true, false, false, false, false, false, false, false, false, false] rfl rfl (by kernel_rfl) (fun _ _ _ h => h) (Or.inl ⟨by rfl, ?_⟩) ⟨(Bk.below BK18.out (below_step (below_step (below_step (below_step HB23.out HB27.out) HB29.out) HB31.out) HB33.out)), (Bk.below BK14.out (below_step (below_step (below_step (below_step (below_step HB19.out HB23.out) HB27.out) HB29.out) HB31.out) HB33.out)), (StR.last_cell (StR.below HV0.out (below_step (below_step (below_step (below_step (below_step (below_step HB15.out HB19.out) HB23.out) HB27.out) HB29.out) HB31.out) HB33.out)) HN0.out HN2.out).2.2.1⟩ ?_ ?_
  · rintro w' ⟨s0_, s1_, s2_⟩
    have hc_ : w'.cell? ⟨g3, 2, none⟩ = some (.int .i64 num) := (Bk.cell s0_ 2).trans rfl
    first | (go_simp; done) | (go_simp; with_reducible rfl) | (go_simp; rfl)
  rotate_left
  · simp only [Act.put, List.setIfInBounds_toArray, List.set_cons_zero, List.set_cons_succ, i64_w, i32_w]
    rfl
  refine pure_ (i := 2) (N := some 36) (v := ?_) (a' := ?_) #[true, true, true, false, false, false, false, false, false, false, false] rfl rfl (by kernel_rfl) (fun _ _ _ h => h) (Or.inl ⟨by rfl, ?_⟩) ?_ ?_
  rotate_left
  · intro w'
    go_simp
    with_reducible rfl
  rotate_left
  · simp only [Act.put, List.setIfInBounds_toArray, List.set_cons_zero, List.set_cons_succ, i64_w, i32_w]
    rfl
  refine take_ (i := 3) (N := some 37) (v := .slice (some ⟨g5, 0, none⟩) s0.last.length c2) (a' := ?_) #[true, true, true, true, false, false, false, false, false, false, false] rfl rfl (by kernel_rfl) (fun _ _ _ h => h) (Or.inl ⟨by rfl, ?_⟩) ⟨(Bk.below BK18.out (below_step (below_step (below_step (below_step HB23.out HB27.out) HB29.out) HB31.out) HB33.out)), (Bk.below BK14.out (below_step (below_step (below_step (below_step (below_step HB19.out HB23.out) HB27.out) HB29.out) HB31.out) HB33.out)), (StR.last_cell (StR.below HV0.out (below_step (below_step (below_step (below_step (below_step (below_step HB15.out HB19.out) HB23.out) HB27.out) HB29.out) HB31.out) HB33.out)) HN0.out HN2.out).2.2.1⟩ ?_ ?_
  · rintro w' ⟨s0_, s1_, s2_⟩
    have hc_ : w'.cell? ⟨g2, 2, none⟩ = some (.slice (some ⟨g5, 0, none⟩) s0.last.length c2) := (Bk.cell s1_ 2).trans rfl
    first | (go_simp; done) | (go_simp; with_reducible rfl) | (go_simp; rfl)
  rotate_left
  · simp only [Act.put, List.setIfInBounds_toArray, List.set_cons_zero, List.set_cons_succ, i64_w, i32_w]
    rfl
  refine pure_ (i := 4) (N := some 38) (v := ?_) (a' := ?_) #[true, true, true, true, true, false, false, false, false, false, false] rfl rfl (by kernel_rfl) (fun _ _ _ h => h) (Or.inl ⟨by rfl, ?_⟩) ?_ ?_
  rotate_left
  · intro w'
    go_simp
    with_reducible rfl
  rotate_left
  · simp only [Act.put, List.setIfInBounds_toArray, List.set_cons_zero, List.set_cons_succ, i64_w, i32_w]
    rfl
  refine take_ (i := 5) (N := some 39) (v := .int .i64 who) (a' := ?_) #[true, true, true, true, true, true, false, false, false, false, false] rfl rfl (by kernel_rfl) (fun _ _ _ h => h) (Or.inl ⟨by rfl, ?_⟩) ⟨(Bk.below BK18.out (below_step (below_step (below_step (below_step HB23.out HB27.out) HB29.out) HB31.out) HB33.out)), (Bk.below BK14.out (below_step (below_step (below_step (below_step (below_step HB19.out HB23.out) HB27.out) HB29.out) HB31.out) HB33.out)), (StR.last_cell (StR.below HV0.out (below_step (below_step (below_step (below_step (below_step (below_step HB15.out HB19.out) HB23.out) HB27.out) HB29.out) HB31.out) HB33.out)) HN0.out HN2.out).2.2.1⟩ ?_ ?_
  · rintro w' ⟨s0_, s1_, s2_⟩
    have hc_ : w'.cell? ⟨g3, 0, none⟩ = some (.int .i64 who) := (Bk.cell s0_ 0).trans rfl
    first | (go_simp; done) | (go_simp; with_reducible rfl) | (go_simp; rfl)
  rotate_left
  · simp only [Act.put, List.setIfInBounds_toArray, List.set_cons_zero, List.set_cons_succ, i64_w, i32_w]
    rfl
  refine pure_ (i := 6) (N := some 40) (v := ?_) (a' := ?_) #[true, true, true, true, true, true, true, false, false, false, false] rfl rfl (by kernel_rfl) (fun _ _ _ h => h) (Or.inl ⟨by rfl, ?_⟩) ?_ ?_
  rotate_left
  · intro w'
    go_simp
    with_reducible rfl
  rotate_left
  · simp only [Act.put, List.setIfInBounds_toArray, List.set_cons_zero, List.set_cons_succ, i64_w, i32_w]
    rfl
  refine take_ (i := 7) (N := some 41) (v := .int .i64 (rd s0.last who)) (a' := ?_) #[true, true, true, true, true, true, true, true, false, false, false] rfl rfl (by kernel_rfl) (fun _ _ _ h => h) (Or.inl ⟨by rfl, ?_⟩) ⟨(Bk.below BK18.out (below_step (below_step (below_step (below_step HB23.out HB27.out) HB29.out) HB31.out) HB33.out)), (Bk.below BK14.out (below_step (below_step (below_step (below_step (below_step HB19.out HB23.out) HB27.out) HB29.out) HB31.out) HB33.out)), (StR.last_cell (StR.below HV0.out (below_step (below_step (below_step (below_step (below_step (below_step HB15.out HB19.out) HB23.out) HB27.out) HB29.out) HB31.out) HB33.out)) HN0.out HN2.out).2.2.1⟩ ?_ ?_
  · rintro w' ⟨s0_, s1_, s2_⟩
    first | (go_simp; done) | (go_simp; with_reducible rfl) | (go_simp; rfl)
  rotate_left
  · simp only [Act.put, List.setIfInBounds_toArray, List.set_cons_zero, List.set_cons_succ, i64_w, i32_w]
    rfl
  refine pure_ (i := 8) (N := some 42) (v := ?_) (a' := ?_) #[true, true, true, true, true, true, true, true, true, false, false] rfl rfl (by kernel_rfl) (fun _ _ _ h => h) (Or.inl ⟨by rfl, ?_⟩) ?_ ?_
  rotate_left
  · intro w'
    go_simp
    with_reducible rfl
  rotate_left
  · simp only [Act.put, List.setIfInBounds_toArray, List.set_cons_zero, List.set_cons_succ, i64_w, i32_w]
    rfl
  refine pure_ (i := 9) (N := some 43) (v := ?_) (a' := ?_) #[true, true, true, true, true, true, true, true, true, true, false] rfl rfl (by kernel_rfl) (fun _ _ _ h => h) (Or.inl ⟨by rfl, ?_⟩) ?_ ?_
  rotate_left
  · intro w'
    go_simp
    with_reducible rfl
  rotate_left
  · simp only [Act.put, List.setIfInBounds_toArray, List.set_cons_zero, List.set_cons_succ, i64_w, i32_w]
    rfl
  refine pure_ (i := 10) (N := some 33) (v := ?_) (a' := ?_) #[true, true, true, true, true, true, true, true, true, true, true] rfl rfl (by kernel_rfl) (fun _ _ _ h => h) (Or.inl ⟨by rfl, ?_⟩) ?_ ?_
  rotate_left
  · intro w'
    go_simp
    with_reducible rfl
  rotate_left
  · simp only [Act.put, List.setIfInBounds_toArray, List.set_cons_zero, List.set_cons_succ, i64_w, i32_w]
    rfl
  refine done_ (by kernel_rfl) ?_
  go_wp2_with (fail)
  refine start_ (n := 17) (S := fun w' => Bk w' g2 #[.slice (some ⟨g9, 0, none⟩) s0.now.length c0, .slice A1 s0.sure.length c1, .slice (some ⟨g5, 0, none⟩) s0.last.length c2, .slice A3 s0.slast.length c3, .slice (some ⟨g1, 0, none⟩) s0.floors.length c4] 25 ∧ Bk w' g3 #[.int .i64 who, .int .i64 ep, .int .i64 num, .int .i64 obj, .int .i64 at_, .string data] 63 ∧ w'.cell? ⟨g9, obj.toNat, none⟩ = some (.string (rdOf ByteArray.empty s0.now obj))) (ds := [16]) #[false, false, false, false, false, false, false, false, false, false, false, false, false, false, false, false, false] (by kernel_rfl) rfl rfl ⟨(show Bk W32 g2 #[.slice (some ⟨g9, 0, none⟩) s0.now.length c0, .slice A1 s0.sure.length c1, .slice (some ⟨g5, 0, none⟩) s0.last.length c2, .slice A3 s0.slast.length c3, .slice (some ⟨g1, 0, none⟩) s0.floors.length c4] 25 from (Bk.below BK14.out (below_step (below_step (below_step (below_step (below_step HB19.out HB23.out) HB27.out) HB29.out) HB31.out) HB33.out))), (show Bk W32 g3 #[.int .i64 who, .int .i64 ep, .int .i64 num, .int .i64 obj, .int .i64 at_, .string data] 63 from (Bk.below BK18.out (below_step (below_step (below_step (below_step HB23.out HB27.out) HB29.out) HB31.out) HB33.out))), (StR.now_cell (StR.below HV0.out (below_step (below_step (below_step (below_step (below_step (below_step HB15.out HB19.out) HB23.out) HB27.out) HB29.out) HB31.out) HB33.out)) HN3.out HN4.out).2.2.1⟩ (fun hHeld => ?_)
  clear hHeld
  refine world_at (w := W32) (below_drew0 _) (fun W34 HB35 => ?_)
  refine pure_ (i := 0) (N := some 45) (v := ?_) (a' := ?_) #[true, false, false, false, false, false, false, false, false, false, false, false, false, false, false, false, false] rfl rfl (by kernel_rfl) (fun _ _ _ h => h) (Or.inl ⟨by rfl, ?_⟩) ?_ ?_
  rotate_left
  · intro w'
    go_simp
    with_reducible rfl
  rotate_left
  · simp only [Act.put, List.setIfInBounds_toArray, List.set_cons_zero, List.set_cons_succ, i64_w, i32_w]
    rfl
  refine take_ (i := 1) (N := some 46) (v := .slice (some ⟨g9, 0, none⟩) s0.now.length c0) (a' := ?_) #[true, true, false, false, false, false, false, false, false, false, false, false, false, false, false, false, false] rfl rfl (by kernel_rfl) (fun _ _ _ h => h) (Or.inl ⟨by rfl, ?_⟩) ⟨(Bk.below BK14.out (below_step (below_step (below_step (below_step (below_step (below_step HB19.out HB23.out) HB27.out) HB29.out) HB31.out) HB33.out) HB35.out)), (Bk.below BK18.out (below_step (below_step (below_step (below_step (below_step HB23.out HB27.out) HB29.out) HB31.out) HB33.out) HB35.out)), (StR.now_cell (StR.below HV0.out (below_step (below_step (below_step (below_step (below_step (below_step (below_step HB15.out HB19.out) HB23.out) HB27.out) HB29.out) HB31.out) HB33.out) HB35.out)) HN3.out HN4.out).2.2.1⟩ ?_ ?_
  · rintro w' ⟨s0_, s1_, s2_⟩
    have hc_ : w'.cell? ⟨g2, 0, none⟩ = some (.slice (some ⟨g9, 0, none⟩) s0.now.length c0) := (Bk.cell s0_ 0).trans rfl
    first | (go_simp; done) | (go_simp; with_reducible rfl) | (go_simp; rfl)
  rotate_left
  · simp only [Act.put, List.setIfInBounds_toArray, List.set_cons_zero, List.set_cons_succ, i64_w, i32_w]
    rfl
  refine pure_ (i := 2) (N := some 47) (v := ?_) (a' := ?_) #[true, true, true, false, false, false, false, false, false, false, false, false, false, false, false, false, false] rfl rfl (by kernel_rfl) (fun _ _ _ h => h) (Or.inl ⟨by rfl, ?_⟩) ?_ ?_
  rotate_left
  · intro w'
    go_simp
    with_reducible rfl
  rotate_left
  · simp only [Act.put, List.setIfInBounds_toArray, List.set_cons_zero, List.set_cons_succ, i64_w, i32_w]
    rfl
  refine take_ (i := 3) (N := some 48) (v := .int .i64 obj) (a' := ?_) #[true, true, true, true, false, false, false, false, false, false, false, false, false, false, false, false, false] rfl rfl (by kernel_rfl) (fun _ _ _ h => h) (Or.inl ⟨by rfl, ?_⟩) ⟨(Bk.below BK14.out (below_step (below_step (below_step (below_step (below_step (below_step HB19.out HB23.out) HB27.out) HB29.out) HB31.out) HB33.out) HB35.out)), (Bk.below BK18.out (below_step (below_step (below_step (below_step (below_step HB23.out HB27.out) HB29.out) HB31.out) HB33.out) HB35.out)), (StR.now_cell (StR.below HV0.out (below_step (below_step (below_step (below_step (below_step (below_step (below_step HB15.out HB19.out) HB23.out) HB27.out) HB29.out) HB31.out) HB33.out) HB35.out)) HN3.out HN4.out).2.2.1⟩ ?_ ?_
  · rintro w' ⟨s0_, s1_, s2_⟩
    have hc_ : w'.cell? ⟨g3, 3, none⟩ = some (.int .i64 obj) := (Bk.cell s1_ 3).trans rfl
    first | (go_simp; done) | (go_simp; with_reducible rfl) | (go_simp; rfl)
  rotate_left
  · simp only [Act.put, List.setIfInBounds_toArray, List.set_cons_zero, List.set_cons_succ, i64_w, i32_w]
    rfl
  refine pure_ (i := 4) (N := some 49) (v := ?_) (a' := ?_) #[true, true, true, true, true, false, false, false, false, false, false, false, false, false, false, false, false] rfl rfl (by kernel_rfl) (fun _ _ _ h => h) (Or.inl ⟨by rfl, ?_⟩) ?_ ?_
  rotate_left
  · intro w'
    go_simp
    with_reducible rfl
  rotate_left
  · simp only [Act.put, List.setIfInBounds_toArray, List.set_cons_zero, List.set_cons_succ, i64_w, i32_w]
    rfl
  refine take_ (i := 5) (N := some 50) (v := .slice (some ⟨g9, 0, none⟩) s0.now.length c0) (a' := ?_) #[true, true, true, true, true, true, false, false, false, false, false, false, false, false, false, false, false] rfl rfl (by kernel_rfl) (fun _ _ _ h => h) (Or.inl ⟨by rfl, ?_⟩) ⟨(Bk.below BK14.out (below_step (below_step (below_step (below_step (below_step (below_step HB19.out HB23.out) HB27.out) HB29.out) HB31.out) HB33.out) HB35.out)), (Bk.below BK18.out (below_step (below_step (below_step (below_step (below_step HB23.out HB27.out) HB29.out) HB31.out) HB33.out) HB35.out)), (StR.now_cell (StR.below HV0.out (below_step (below_step (below_step (below_step (below_step (below_step (below_step HB15.out HB19.out) HB23.out) HB27.out) HB29.out) HB31.out) HB33.out) HB35.out)) HN3.out HN4.out).2.2.1⟩ ?_ ?_
  · rintro w' ⟨s0_, s1_, s2_⟩
    have hc_ : w'.cell? ⟨g2, 0, none⟩ = some (.slice (some ⟨g9, 0, none⟩) s0.now.length c0) := (Bk.cell s0_ 0).trans rfl
    first | (go_simp; done) | (go_simp; with_reducible rfl) | (go_simp; rfl)
  rotate_left
  · simp only [Act.put, List.setIfInBounds_toArray, List.set_cons_zero, List.set_cons_succ, i64_w, i32_w]
    rfl
  refine pure_ (i := 6) (N := some 51) (v := ?_) (a' := ?_) #[true, true, true, true, true, true, true, false, false, false, false, false, false, false, false, false, false] rfl rfl (by kernel_rfl) (fun _ _ _ h => h) (Or.inl ⟨by rfl, ?_⟩) ?_ ?_
  rotate_left
  · intro w'
    go_simp
    with_reducible rfl
  rotate_left
  · simp only [Act.put, List.setIfInBounds_toArray, List.set_cons_zero, List.set_cons_succ, i64_w, i32_w]
    rfl
  refine take_ (i := 7) (N := some 52) (v := .int .i64 obj) (a' := ?_) #[true, true, true, true, true, true, true, true, false, false, false, false, false, false, false, false, false] rfl rfl (by kernel_rfl) (fun _ _ _ h => h) (Or.inl ⟨by rfl, ?_⟩) ⟨(Bk.below BK14.out (below_step (below_step (below_step (below_step (below_step (below_step HB19.out HB23.out) HB27.out) HB29.out) HB31.out) HB33.out) HB35.out)), (Bk.below BK18.out (below_step (below_step (below_step (below_step (below_step HB23.out HB27.out) HB29.out) HB31.out) HB33.out) HB35.out)), (StR.now_cell (StR.below HV0.out (below_step (below_step (below_step (below_step (below_step (below_step (below_step HB15.out HB19.out) HB23.out) HB27.out) HB29.out) HB31.out) HB33.out) HB35.out)) HN3.out HN4.out).2.2.1⟩ ?_ ?_
  · rintro w' ⟨s0_, s1_, s2_⟩
    have hc_ : w'.cell? ⟨g3, 3, none⟩ = some (.int .i64 obj) := (Bk.cell s1_ 3).trans rfl
    first | (go_simp; done) | (go_simp; with_reducible rfl) | (go_simp; rfl)
  rotate_left
  · simp only [Act.put, List.setIfInBounds_toArray, List.set_cons_zero, List.set_cons_succ, i64_w, i32_w]
    rfl
  refine pure_ (i := 8) (N := some 53) (v := ?_) (a' := ?_) #[true, true, true, true, true, true, true, true, true, false, false, false, false, false, false, false, false] rfl rfl (by kernel_rfl) (fun _ _ _ h => h) (Or.inl ⟨by rfl, ?_⟩) ?_ ?_
  rotate_left
  · intro w'
    go_simp
    with_reducible rfl
  rotate_left
  · simp only [Act.put, List.setIfInBounds_toArray, List.set_cons_zero, List.set_cons_succ, i64_w, i32_w]
    rfl
  refine take_ (i := 9) (N := some 54) (v := .string (rdOf ByteArray.empty s0.now obj)) (a' := ?_) #[true, true, true, true, true, true, true, true, true, true, false, false, false, false, false, false, false] rfl rfl (by kernel_rfl) (fun _ _ _ h => h) (Or.inl ⟨by rfl, ?_⟩) ⟨(Bk.below BK14.out (below_step (below_step (below_step (below_step (below_step (below_step HB19.out HB23.out) HB27.out) HB29.out) HB31.out) HB33.out) HB35.out)), (Bk.below BK18.out (below_step (below_step (below_step (below_step (below_step HB23.out HB27.out) HB29.out) HB31.out) HB33.out) HB35.out)), (StR.now_cell (StR.below HV0.out (below_step (below_step (below_step (below_step (below_step (below_step (below_step HB15.out HB19.out) HB23.out) HB27.out) HB29.out) HB31.out) HB33.out) HB35.out)) HN3.out HN4.out).2.2.1⟩ ?_ ?_
  · rintro w' ⟨s0_, s1_, s2_⟩
    first | (go_simp; done) | (go_simp; with_reducible rfl) | (go_simp; rfl)
  rotate_left
  · simp only [Act.put, List.setIfInBounds_toArray, List.set_cons_zero, List.set_cons_succ, i64_w, i32_w]
    rfl
  refine pure_ (i := 10) (N := some 55) (v := ?_) (a' := ?_) #[true, true, true, true, true, true, true, true, true, true, true, false, false, false, false, false, false] rfl rfl (by kernel_rfl) (fun _ _ _ h => h) (Or.inl ⟨by rfl, ?_⟩) ?_ ?_
  rotate_left
  · intro w'
    go_simp
    with_reducible rfl
  rotate_left
  · simp only [Act.put, List.setIfInBounds_toArray, List.set_cons_zero, List.set_cons_succ, i64_w, i32_w]
    rfl
  refine take_ (i := 11) (N := some 56) (v := .int .i64 at_) (a' := ?_) #[true, true, true, true, true, true, true, true, true, true, true, true, false, false, false, false, false] rfl rfl (by kernel_rfl) (fun _ _ _ h => h) (Or.inl ⟨by rfl, ?_⟩) ⟨(Bk.below BK14.out (below_step (below_step (below_step (below_step (below_step (below_step HB19.out HB23.out) HB27.out) HB29.out) HB31.out) HB33.out) HB35.out)), (Bk.below BK18.out (below_step (below_step (below_step (below_step (below_step HB23.out HB27.out) HB29.out) HB31.out) HB33.out) HB35.out)), (StR.now_cell (StR.below HV0.out (below_step (below_step (below_step (below_step (below_step (below_step (below_step HB15.out HB19.out) HB23.out) HB27.out) HB29.out) HB31.out) HB33.out) HB35.out)) HN3.out HN4.out).2.2.1⟩ ?_ ?_
  · rintro w' ⟨s0_, s1_, s2_⟩
    have hc_ : w'.cell? ⟨g3, 4, none⟩ = some (.int .i64 at_) := (Bk.cell s1_ 4).trans rfl
    first | (go_simp; done) | (go_simp; with_reducible rfl) | (go_simp; rfl)
  rotate_left
  · simp only [Act.put, List.setIfInBounds_toArray, List.set_cons_zero, List.set_cons_succ, i64_w, i32_w]
    rfl
  refine pure_ (i := 12) (N := some 57) (v := ?_) (a' := ?_) #[true, true, true, true, true, true, true, true, true, true, true, true, true, false, false, false, false] rfl rfl (by kernel_rfl) (fun _ _ _ h => h) (Or.inl ⟨by rfl, ?_⟩) ?_ ?_
  rotate_left
  · intro w'
    go_simp
    with_reducible rfl
  rotate_left
  · simp only [Act.put, List.setIfInBounds_toArray, List.set_cons_zero, List.set_cons_succ, i64_w, i32_w]
    rfl
  refine take_ (i := 13) (N := some 58) (v := .string data) (a' := ?_) #[true, true, true, true, true, true, true, true, true, true, true, true, true, true, false, false, false] rfl rfl (by kernel_rfl) (fun _ _ _ h => h) (Or.inl ⟨by rfl, ?_⟩) ⟨(Bk.below BK14.out (below_step (below_step (below_step (below_step (below_step (below_step HB19.out HB23.out) HB27.out) HB29.out) HB31.out) HB33.out) HB35.out)), (Bk.below BK18.out (below_step (below_step (below_step (below_step (below_step HB23.out HB27.out) HB29.out) HB31.out) HB33.out) HB35.out)), (StR.now_cell (StR.below HV0.out (below_step (below_step (below_step (below_step (below_step (below_step (below_step HB15.out HB19.out) HB23.out) HB27.out) HB29.out) HB31.out) HB33.out) HB35.out)) HN3.out HN4.out).2.2.1⟩ ?_ ?_
  · rintro w' ⟨s0_, s1_, s2_⟩
    have hc_ : w'.cell? ⟨g3, 5, none⟩ = some (.string data) := (Bk.cell s1_ 5).trans rfl
    first | (go_simp; done) | (go_simp; with_reducible rfl) | (go_simp; rfl)
  rotate_left
  · simp only [Act.put, List.setIfInBounds_toArray, List.set_cons_zero, List.set_cons_succ, i64_w, i32_w]
    rfl
  refine one_ (i := 14) (N := some 59) #[true, true, true, true, true, true, true, true, true, true, true, true, true, true, true, false, false] rfl rfl (by kernel_rfl) (by decide) (fun K hK => ?_)
  refine goes_ Try.func77 (by kernel_rfl) rfl #[.string (rdOf ByteArray.empty s0.now obj), .int .i64 at_, .string data] (by rfl) rfl rfl (by (try simp only [List.map_toArray, List.map_cons, List.map_nil]); first | done | rfl) ?_
  refine (spec_l2Write_c HQ.out HN5.out HWR.out).mono ?_
  rintro e W36 ⟨rfl, hb37⟩
  have HB38 := Aside0.mk hb37
  clear hb37
  refine ⟨_, rfl, ?_⟩
  refine hK.out _ _ ⟨(Bk.below BK14.out (below_step (below_step (below_step (below_step (below_step (below_step (below_step HB19.out HB23.out) HB27.out) HB29.out) HB31.out) HB33.out) HB35.out) HB38.out)), (Bk.below BK18.out (below_step (below_step (below_step (below_step (below_step (below_step HB23.out HB27.out) HB29.out) HB31.out) HB33.out) HB35.out) HB38.out)), (StR.now_cell (StR.below HV0.out (below_step (below_step (below_step (below_step (below_step (below_step (below_step (below_step HB15.out HB19.out) HB23.out) HB27.out) HB29.out) HB31.out) HB33.out) HB35.out) HB38.out)) HN3.out HN4.out).2.2.1⟩ (fun hHeld => ?_)
  clear hHeld hK K
  refine norm_ (a' := ?_) ?_ ?_
  rotate_left
  · show Act.put _ (some 59) _ = _
    simp only [Act.put, List.setIfInBounds_toArray, List.set_cons_zero, List.set_cons_succ, i64_w, i32_w]
    rfl
  refine pure_ (i := 15) (N := some 60) (v := ?_) (a' := ?_) #[true, true, true, true, true, true, true, true, true, true, true, true, true, true, true, true, false] rfl rfl (by kernel_rfl) (fun _ _ _ h => h) (Or.inl ⟨by rfl, ?_⟩) ?_ ?_
  rotate_left
  · intro w'
    go_simp
    with_reducible rfl
  rotate_left
  · simp only [Act.put, List.setIfInBounds_toArray, List.set_cons_zero, List.set_cons_succ, i64_w, i32_w]
    rfl
  refine last_ (i := 16) (N := none) #[true, true, true, true, true, true, true, true, true, true, true, true, true, true, true, true, true] rfl rfl (by kernel_rfl) (by decide) (fun K hK => ?_)
  refine skip_ (w1 := W36.setCell ⟨g9, obj.toNat, none⟩ (.string r)) (by rfl) rfl ?_ ?_
  · have hc_ := (StR.now_cell (StR.below HV0.out (below_step (below_step (below_step (below_step (below_step (below_step (below_step (below_step HB15.out HB19.out) HB23.out) HB27.out) HB29.out) HB31.out) HB33.out) HB35.out) HB38.out)) HN3.out HN4.out).2.2.1
    have hf_ := (StR.now_cell (StR.below HV0.out (below_step (below_step (below_step (below_step (below_step (below_step (below_step (below_step HB15.out HB19.out) HB23.out) HB27.out) HB29.out) HB31.out) HB33.out) HB35.out) HB38.out)) HN3.out HN4.out).2.2.2.1
    first | (go_simp; done) | (go_simp; rfl)
  refine hK.out _ _ ?_
  clear hK K
  refine done_ (by kernel_rfl) ?_
  refine set_event (fun W39 e40 => ?_)
  have z0_ := HLO.out; have z1_ := HHI.out; have z2_ := HB0.out.size; have z3_ := GT2.out; have z4_ := GL3.out; have z5_ := GH4.out; have z6_ := GT6.out; have z7_ := GL7.out; have z8_ := GH8.out; have z9_ := GT10.out; have z10_ := GL11.out; have z11_ := GH12.out; have z12_ := HB15.out.size; have z13_ := HG16.out; have z14_ := BK14.out.lt; have z15_ := HB19.out.size; have z16_ := HG20.out; have z17_ := BK18.out.lt; have z18_ := HB23.out.size; have z19_ := HG24.out; have z20_ := BK22.out.lt; have z21_ := HB27.out.size; have z22_ := HB29.out.size; have z23_ := HB31.out.size; have z24_ := HB33.out.size; have z25_ := HB35.out.size; have z26_ := HB38.out.size; have HB41 := Aside0.mk (below_at (below_step HB0.out (below_step (below_step (below_step (below_step (below_step (below_step (below_step (below_step HB15.out HB19.out) HB23.out) HB27.out) HB29.out) HB31.out) HB33.out) HB35.out) HB38.out)) (below_setcell e40) (by show w0.heap.size ≤ g9; omega)); have HK42 := Aside0.mk (kept_set e40); have KP43 := Aside0.mk (Kept.then_ (Kept.below KP0.out (below_step (below_step (below_step (below_step (below_step (below_step (below_step (below_step HB15.out HB19.out) HB23.out) HB27.out) HB29.out) HB31.out) HB33.out) HB35.out) HB38.out)) HK42.out (fun k_ h_ => Or.inl (by obtain ⟨h1_, h2_⟩ := h_; exact ⟨by omega, by omega⟩))); have F44 := Aside0.mk ((StR.now_cell (StR.below HV0.out (below_step (below_step (below_step (below_step (below_step (below_step (below_step (below_step HB15.out HB19.out) HB23.out) HB27.out) HB29.out) HB31.out) HB33.out) HB35.out) HB38.out)) HN3.out HN4.out).2.2.2.2 (r) _ e40); have F45 := Aside0.mk (Bk.kept (Bk.below BK14.out (below_step (below_step (below_step (below_step (below_step (below_step (below_step HB19.out HB23.out) HB27.out) HB29.out) HB31.out) HB33.out) HB35.out) HB38.out)) HK42.out (fun h_ => (by obtain ⟨h1_, h2_⟩ := h_; omega))); have F46 := Aside0.mk (Bk.kept (Bk.below BK18.out (below_step (below_step (below_step (below_step (below_step (below_step HB23.out HB27.out) HB29.out) HB31.out) HB33.out) HB35.out) HB38.out)) HK42.out (fun h_ => (by obtain ⟨h1_, h2_⟩ := h_; omega))); have F47 := Aside0.mk (Bk.kept (Bk.below BK22.out (below_step (below_step (below_step (below_step (below_step HB27.out HB29.out) HB31.out) HB33.out) HB35.out) HB38.out)) HK42.out (fun h_ => (by obtain ⟨h1_, h2_⟩ := h_; omega))); clear z0_ z1_ z2_ z3_ z4_ z5_ z6_ z7_ z8_ z9_ z10_ z11_ z12_ z13_ z14_ z15_ z16_ z17_ z18_ z19_ z20_ z21_ z22_ z23_ z24_ z25_ z26_ e40
  go_wp2_with (first | ((with_reducible refine gate_dst (N := 62) rfl ?_); refine ev_val (by rfl) (v := .slice (some ⟨g5, 0, none⟩) s0.last.length c2) ?hr ?_; (case hr => have hc_ : W39.cell? ⟨g2, 2, none⟩ = some (.slice (some ⟨g5, 0, none⟩) s0.last.length c2) := (Bk.cell F45.out 2).trans rfl; first | (go_simp; done) | (go_simp; rfl))) | ((with_reducible refine gate_dst (N := 64) rfl ?_); refine ev_val (by rfl) (v := .int .i64 who) ?hr ?_; (case hr => have hc_ : W39.cell? ⟨g3, 0, none⟩ = some (.int .i64 who) := (Bk.cell F46.out 0).trans rfl; first | (go_simp; done) | (go_simp; rfl))) | ((with_reducible refine gate_dst (N := 66) rfl ?_); refine ev_val (by rfl) (v := .int .i64 num) ?hr ?_; (case hr => have hc_ : W39.cell? ⟨g3, 2, none⟩ = some (.int .i64 num) := (Bk.cell F46.out 2).trans rfl; first | (go_simp; done) | (go_simp; rfl))) | ((with_reducible refine gate_store (t := 3) (p := 67) rfl ?_); refine ev_setcell (by rfl) rfl (g := g5) (i := who.toNat) (v := .int .i64 num) ?hr ?_; (case hr => have hc_ := (StR.last_cell F44.out HN0.out HN2.out).2.2.1; have hf_ := (StR.last_cell F44.out HN0.out HN2.out).2.2.2.1; first | (go_simp; done) | (go_simp; rfl)); intro W48 e49; have z0_ := HLO.out; have z1_ := HHI.out; have z2_ := HB0.out.size; have z3_ := GT2.out; have z4_ := GL3.out; have z5_ := GH4.out; have z6_ := GT6.out; have z7_ := GL7.out; have z8_ := GH8.out; have z9_ := GT10.out; have z10_ := GL11.out; have z11_ := GH12.out; have z12_ := HB15.out.size; have z13_ := HG16.out; have z14_ := BK14.out.lt; have z15_ := HB19.out.size; have z16_ := HG20.out; have z17_ := BK18.out.lt; have z18_ := HB23.out.size; have z19_ := HG24.out; have z20_ := BK22.out.lt; have z21_ := HB27.out.size; have z22_ := HB29.out.size; have z23_ := HB31.out.size; have z24_ := HB33.out.size; have z25_ := HB35.out.size; have z26_ := HB38.out.size; have z27_ := HB41.out.size; have z28_ := HK42.out.1; have HB50 := Aside0.mk (below_at HB41.out (below_setcell e49) (by show w0.heap.size ≤ g5; omega)); have HK51 := Aside0.mk (kept_set e49); have KP52 := Aside0.mk (Kept.then_ KP43.out HK51.out (fun k_ h_ => Or.inl (by obtain ⟨h1_, h2_⟩ := h_; exact ⟨by omega, by omega⟩))); have F53 := Aside0.mk ((StR.last_cell F44.out HN0.out HN2.out).2.2.2.2 (num) _ e49); have F54 := Aside0.mk (Bk.kept F45.out HK51.out (fun h_ => (by obtain ⟨h1_, h2_⟩ := h_; omega))); have F55 := Aside0.mk (Bk.kept F46.out HK51.out (fun h_ => (by obtain ⟨h1_, h2_⟩ := h_; omega))); have F56 := Aside0.mk (Bk.kept F47.out HK51.out (fun h_ => (by obtain ⟨h1_, h2_⟩ := h_; omega))); clear z0_ z1_ z2_ z3_ z4_ z5_ z6_ z7_ z8_ z9_ z10_ z11_ z12_ z13_ z14_ z15_ z16_ z17_ z18_ z19_ z20_ z21_ z22_ z23_ z24_ z25_ z26_ z27_ z28_ e49) | ((with_reducible refine gate_dst (N := 68) rfl ?_); refine ev_load rfl (N := 68) rfl rfl (g := g2) rfl (cs := #[.slice (some ⟨g9, 0, none⟩) s0.now.length c0, .slice A1 s0.sure.length c1, .slice (some ⟨g5, 0, none⟩) s0.last.length c2, .slice A3 s0.slast.length c3, .slice (some ⟨g1, 0, none⟩) s0.floors.length c4]) F54.out hu25 rfl (by kernel_rfl) ?_) | ((with_reducible refine gate_store (t := 25) (p := 4) rfl ?_); refine ev_put (by rfl) rfl rfl (g := g4) rfl (cs := #[.slice (some ⟨g9, 0, none⟩) s0.now.length c0, .slice A1 s0.sure.length c1, .slice (some ⟨g5, 0, none⟩) s0.last.length c2, .slice A3 s0.slast.length c3, .slice (some ⟨g1, 0, none⟩) s0.floors.length c4]) rfl F56.out (by kernel_rfl) rfl rfl ?_; intro W57 BK58 HB59 HK60; have z0_ := HLO.out; have z1_ := HHI.out; have z2_ := HB0.out.size; have z3_ := GT2.out; have z4_ := GL3.out; have z5_ := GH4.out; have z6_ := GT6.out; have z7_ := GL7.out; have z8_ := GH8.out; have z9_ := GT10.out; have z10_ := GL11.out; have z11_ := GH12.out; have z12_ := HB15.out.size; have z13_ := HG16.out; have z14_ := BK14.out.lt; have z15_ := HB19.out.size; have z16_ := HG20.out; have z17_ := BK18.out.lt; have z18_ := HB23.out.size; have z19_ := HG24.out; have z20_ := BK22.out.lt; have z21_ := HB27.out.size; have z22_ := HB29.out.size; have z23_ := HB31.out.size; have z24_ := HB33.out.size; have z25_ := HB35.out.size; have z26_ := HB38.out.size; have z27_ := HB41.out.size; have z28_ := HK42.out.1; have z29_ := HB50.out.size; have z30_ := HK51.out.1; have HB61 := Aside0.mk (below_at HB50.out HB59.out (by show w0.heap.size ≤ g4; omega)); have HK62 := Aside0.mk (HK60.out); have KP63 := Aside0.mk (kept_new KP52.out HK62.out (by show w.heap.size ≤ g4; omega)); have F64 := Aside0.mk (StR.kept F53.out HK62.out (fun k_ h_ => (by obtain ⟨h1_, h2_⟩ := h_; omega))); have F65 := Aside0.mk (Bk.kept F54.out HK62.out (fun h_ => (by obtain ⟨h1_, h2_⟩ := h_; omega))); have F66 := Aside0.mk (Bk.kept F55.out HK62.out (fun h_ => (by obtain ⟨h1_, h2_⟩ := h_; omega))); have F67 := Aside0.mk (BK58.out); clear z0_ z1_ z2_ z3_ z4_ z5_ z6_ z7_ z8_ z9_ z10_ z11_ z12_ z13_ z14_ z15_ z16_ z17_ z18_ z19_ z20_ z21_ z22_ z23_ z24_ z25_ z26_ z27_ z28_ z29_ z30_))
  try go_wp2
  refine bodyPost_ret (results_ct rfl _ _ g4 25 #[.slice (some ⟨g9, 0, none⟩) s0.now.length c0, .slice A1 s0.sure.length c1, .slice (some ⟨g5, 0, none⟩) s0.last.length c2, .slice A3 s0.slast.length c3, .slice (some ⟨g1, 0, none⟩) s0.floors.length c4] (0, 0) _ rfl F67.out hu25 rfl (by kernel_rfl)) rfl ?_
  exact ⟨rfl, F64.out, HB61.out, KP63.out⟩
end Go.Proofs.Ytolmblfffnnabaa.P

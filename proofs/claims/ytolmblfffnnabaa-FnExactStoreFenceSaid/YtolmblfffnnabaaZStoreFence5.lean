/- Part 5 of the proof of FnExactStoreFence: words, contracts of callees, plain lemmas. -/
import Derived.Test.YtolmblfffnnabaaZStoreFence4
namespace Go.Proofs.Ytolmblfffnnabaa.P
open Go.RowKit Go.Proofs.YtolmblfffnnabaaW.PrintWords Go.Proofs.YtolmblfffnnabaaW.PrintLast Go.Proofs.YtolmblfffnnabaaW.PrintMore
def whoOk (a : Int) : Bool := decide (0 ≤ a) && decide (a < 3)
section
variable {w : World} {v : Value} {s : St}
theorem impl_again_c (hv : StC w v s) (hs : Small s) : Calls Try.prog 63 #[v] w fun e w' => ∃ u, e = .returned u ∧ StR w' w.heap.size w'.heap.size u s ∧ Below w.heap.size w w' := by
  obtain ⟨A0, c0, A1, c1, A2, c2, A3, c3, A4, c4, rfl, g0, g1, g2, g3, g4⟩ := hv
  refine (impl_again.calls A0 c0 s.now A1 c1 s.sure A2 c2 s.last A3 c3 s.slast A4 c4 s.floors _ _ _ _ _ w g0.1 g0.2 g1.1 g1.2 g2.1 g2.2 g3.1 g3.2 g4.1 g4.2 (impl_again_eq hs)).mono ?_
  rintro e w' ⟨v0, v1, v2, v3, v4, he, r0, r1, r2, r3, r4, hb⟩
  exact ⟨_, he, StR.mk r0 r1 r2 r3 r4, hb⟩
theorem spec_l5Copy_c (hv : StC w v s) (hs : Small s) : Calls Try.prog 62 #[v] w fun e w' => ∃ u, e = .returned u ∧ StR w' w.heap.size w'.heap.size u s ∧ Below w.heap.size w w' := by
  obtain ⟨A0, c0, A1, c1, A2, c2, A3, c3, A4, c4, rfl, g0, g1, g2, g3, g4⟩ := hv
  refine (spec_l5Copy.calls A0 c0 s.now A1 c1 s.sure A2 c2 s.last A3 c3 s.slast A4 c4 s.floors _ _ _ _ _ w g0.1 g0.2 g1.1 g1.2 g2.1 g2.2 g3.1 g3.2 g4.1 g4.2 (spec_l5Copy_eq hs)).mono ?_
  rintro e w' ⟨v0, v1, v2, v3, v4, he, r0, r1, r2, r3, r4, hb⟩
  exact ⟨_, he, StR.mk r0 r1 r2 r3 r4, hb⟩
theorem who_eq (a : Int) : impl_client.f a = some (whoOk a) := by
  unfold impl_client.f whoOk
  by_cases h : a ≥ 0
  · rw [if_pos h, decide_eq_true (show 0 ≤ a from h), Bool.true_and]
  · rw [if_neg h, decide_eq_false (show ¬ 0 ≤ a from h), Bool.false_and]
theorem impl_who_c {a : Int} {b : Bool} (h : whoOk a = b) : Calls Try.prog 68 #[.int .i64 a] w fun e w' => e = .returned (.bool b) ∧ Below w.heap.size w w' :=
  (impl_client.calls a b w (h ▸ who_eq a)).mono fun _ _ ⟨e, h⟩ => ⟨e, h.below⟩
theorem spec_who_c {a : Int} {b : Bool} (h : whoOk a = b) : Calls Try.prog 66 #[.int .i64 a] w fun e w' => e = .returned (.bool b) ∧ Below w.heap.size w w' :=
  (spec_l4Who.calls a b w (h ▸ who_eq a)).mono fun _ _ ⟨e, h⟩ => ⟨e, h.below⟩
theorem spec_l1Max_c (x y : Int) {m : Int} (hm : (if x < y then y else x) = m) : Calls Try.prog 67 #[.int .i64 x, .int .i64 y] w fun e w' => e = .returned (.int .i64 m) ∧ Below w.heap.size w w' := by
  refine (spec_l1Max.calls x y m w ?_).mono fun _ _ ⟨e, h⟩ => ⟨e, h.below⟩
  unfold spec_l1Max.f
  rw [← hm]
  by_cases h : x > y
  · rw [if_pos h, if_neg (by omega)]
  · rw [if_neg h]
    by_cases h2 : x < y
    · rw [if_pos h2]
    · rw [if_neg h2]
      congr 1
      omega
end
end Go.Proofs.Ytolmblfffnnabaa.P
namespace Go.Proofs.Ytolmblfffnnabaa.P
open Go.RowKit Go.Proofs.YtolmblfffnnabaaW.PrintWords Go.Proofs.YtolmblfffnnabaaW.PrintLast Go.Proofs.YtolmblfffnnabaaW.PrintMore
attribute [local go_sem] max2_int min2_int max_two min_two
set_option linter.unusedVariables false
set_option linter.unusedSimpArgs false
set_option maxHeartbeats 8000000 in
set_option maxRecDepth 100000 in
theorem impl_StoreFence_p0 {w : World} {v0 : Value} {s0 : St} (hv0 : StC w v0 s0) (hz0 : Sized s0) (hs0 : Small s0) (a1 a2 : Int) (hk : stOk s0 = false) :
    Calls Try.prog 31 #[v0, .int .i64 a1, .int .i64 a2] w fun e w' => ∃ u, e = .returned (.tuple #[u, .bool false]) ∧ StR w' w.heap.size w'.heap.size u stNone ∧ Below w.heap.size w w' := by
  have HV0 := Aside0.mk hv0
  have HZ0 := Aside0.mk hz0
  obtain ⟨A0_0, c0_0, A0_1, c0_1, A0_2, c0_2, A0_3, c0_3, A0_4, c0_4, rfl, _⟩ := hv0
  have HS0 := Aside0.mk hs0
  clear hz0 hs0
  have HK := Aside0.mk hk
  clear hk
  have hu25 := Try.underlying25
  go_enter Try.func31, Try.ntmps31
  go_wp2_with (first | ((with_reducible refine gate_dst (N := 3) rfl ?_); refine ev_box ?hg (N := 3) ?hd (cs := #[.slice A0_0 s0.now.length c0_0, .slice A0_1 s0.sure.length c0_1, .slice A0_2 s0.last.length c0_2, .slice A0_3 s0.slast.length c0_3, .slice A0_4 s0.floors.length c0_4]) (t := 25) ?hr ?_; (case hd => rfl); (case hg => rfl); (case hr => first | (go_simp; done) | (go_simp; rfl)); intro g3 W1 HG4 BK2 HB3) | ((with_reducible refine gate_dst (N := 6) rfl ?_); refine ev_box ?hg (N := 6) ?hd (cs := #[.slice none 0 0, .slice none 0 0, .slice none 0 0, .slice none 0 0, .slice none 0 0]) (t := 25) ?hr ?_; (case hd => rfl); (case hg => rfl); (case hr => first | (go_simp; done) | (go_simp; rfl)); intro g6 W5 HG8 BK6 HB7) | ((with_reducible refine gate_dst (N := 8) rfl ?_); refine ev_load rfl (N := 8) rfl rfl (g := g3) rfl (cs := #[.slice A0_0 s0.now.length c0_0, .slice A0_1 s0.sure.length c0_1, .slice A0_2 s0.last.length c0_2, .slice A0_3 s0.slast.length c0_3, .slice A0_4 s0.floors.length c0_4]) (Bk.below BK2.out HB7.out) hu25 rfl (by kernel_rfl) ?_))
  refine (impl_StoreOk_q (StC.below HV0.out (below_step HB3.out HB7.out)) HZ0.out HK.out).mono ?_
  rintro e W9 ⟨rfl, hb10⟩
  have HB11 := Aside0.mk hb10
  clear hb10
  go_wp2_with (first | ((with_reducible refine gate_store (t := 25) (p := 6) rfl ?_); refine ev_put (by rfl) rfl rfl (g := g6) rfl (cs := #[.slice none 0 0, .slice none 0 0, .slice none 0 0, .slice none 0 0, .slice none 0 0]) rfl (Bk.below BK6.out HB11.out) (by kernel_rfl) rfl rfl ?_; intro W12 BK13 HB14 HK15; have HB16 := Aside0.mk (below_at (below_step (below_step HB3.out HB7.out) HB11.out) HB14.out (by show w.heap.size ≤ g6; have z0_ := HB3.out.size; have z1_ := HG4.out; have z2_ := BK2.out.lt; have z3_ := HB7.out.size; have z4_ := HG8.out; have z5_ := BK6.out.lt; have z6_ := HB11.out.size; omega)); have HK17 := Aside0.mk (HK15.out); have F18 := Aside0.mk (StC.below HV0.out HB16.out); have F19 := Aside0.mk (Bk.kept (Bk.below BK2.out (below_step HB7.out HB11.out)) HK17.out (fun h_ => (by obtain ⟨h1_, h2_⟩ := h_; have z0_ := HB3.out.size; have z1_ := HG4.out; have z2_ := BK2.out.lt; have z3_ := HB7.out.size; have z4_ := HG8.out; have z5_ := BK6.out.lt; have z6_ := HB11.out.size; omega))); have F20 := Aside0.mk (BK13.out)))
  try go_wp2
  refine bodyPost_ret (results_ct rfl _ _ g6 25 #[.slice none 0 0, .slice none 0 0, .slice none 0 0, .slice none 0 0, .slice none 0 0] (0, 0) _ rfl F20.out hu25 rfl (by kernel_rfl)) rfl ?_
  exact ⟨_, rfl, StR.zero _ _, HB16.out⟩
set_option maxHeartbeats 8000000 in
set_option maxRecDepth 100000 in
theorem impl_StoreFence_p1 {w : World} {v0 : Value} {s0 : St} (hv0 : StC w v0 s0) (hz0 : Sized s0) (hs0 : Small s0) (a1 a2 : Int) (hk : stOk s0 = true) (hw : whoOk a1 = false) :
    Calls Try.prog 31 #[v0, .int .i64 a1, .int .i64 a2] w fun e w' => ∃ u, e = .returned (.tuple #[u, .bool false]) ∧ StR w' w.heap.size w'.heap.size u s0 ∧ Below w.heap.size w w' := by
  have HV0 := Aside0.mk hv0
  have HZ0 := Aside0.mk hz0
  obtain ⟨A0_0, c0_0, A0_1, c0_1, A0_2, c0_2, A0_3, c0_3, A0_4, c0_4, rfl, _⟩ := hv0
  have HS0 := Aside0.mk hs0
  clear hz0 hs0
  have HK := Aside0.mk hk
  clear hk
  have HW := Aside0.mk hw
  clear hw
  have hu25 := Try.underlying25
  go_enter Try.func31, Try.ntmps31
  go_wp2_with (first | ((with_reducible refine gate_dst (N := 3) rfl ?_); refine ev_box ?hg (N := 3) ?hd (cs := #[.slice A0_0 s0.now.length c0_0, .slice A0_1 s0.sure.length c0_1, .slice A0_2 s0.last.length c0_2, .slice A0_3 s0.slast.length c0_3, .slice A0_4 s0.floors.length c0_4]) (t := 25) ?hr ?_; (case hd => rfl); (case hg => rfl); (case hr => first | (go_simp; done) | (go_simp; rfl)); intro g3 W1 HG4 BK2 HB3) | ((with_reducible refine gate_dst (N := 6) rfl ?_); refine ev_box ?hg (N := 6) ?hd (cs := #[.slice none 0 0, .slice none 0 0, .slice none 0 0, .slice none 0 0, .slice none 0 0]) (t := 25) ?hr ?_; (case hd => rfl); (case hg => rfl); (case hr => first | (go_simp; done) | (go_simp; rfl)); intro g6 W5 HG8 BK6 HB7) | ((with_reducible refine gate_dst (N := 8) rfl ?_); refine ev_load rfl (N := 8) rfl rfl (g := g3) rfl (cs := #[.slice A0_0 s0.now.length c0_0, .slice A0_1 s0.sure.length c0_1, .slice A0_2 s0.last.length c0_2, .slice A0_3 s0.slast.length c0_3, .slice A0_4 s0.floors.length c0_4]) (Bk.below BK2.out HB7.out) hu25 rfl (by kernel_rfl) ?_))
  refine (impl_StoreOk_q (StC.below HV0.out (below_step HB3.out HB7.out)) HZ0.out HK.out).mono ?_
  rintro e W9 ⟨rfl, hb10⟩
  have HB11 := Aside0.mk hb10
  clear hb10
  go_wp2_with (first | ((with_reducible refine gate_dst (N := 12) rfl ?_); refine ev_load rfl (N := 12) rfl rfl (g := g3) rfl (cs := #[.slice A0_0 s0.now.length c0_0, .slice A0_1 s0.sure.length c0_1, .slice A0_2 s0.last.length c0_2, .slice A0_3 s0.slast.length c0_3, .slice A0_4 s0.floors.length c0_4]) (Bk.below BK2.out (below_step HB7.out HB11.out)) hu25 rfl (by kernel_rfl) ?_))
  refine (impl_again_c (StC.below HV0.out (below_step (below_step HB3.out HB7.out) HB11.out)) HS0.out).mono ?_
  rintro e W15 ⟨u12, rfl, hr13, hb16⟩
  have HB17 := Aside0.mk hb16
  clear hb16
  have HRs14 := Aside0.mk hr13
  obtain ⟨as14_0, ds14_0, as14_1, ds14_1, as14_2, ds14_2, as14_3, ds14_3, as14_4, ds14_4, rfl, _⟩ := hr13.toC
  clear hr13
  go_wp2_with (first | ((with_reducible refine gate_store (t := 25) (p := 3) rfl ?_); refine ev_put (by rfl) rfl rfl (g := g3) rfl (cs := #[.slice as14_0 s0.now.length ds14_0, .slice as14_1 s0.sure.length ds14_1, .slice as14_2 s0.last.length ds14_2, .slice as14_3 s0.slast.length ds14_3, .slice as14_4 s0.floors.length ds14_4]) rfl (Bk.below BK2.out (below_step (below_step HB7.out HB11.out) HB17.out)) (by kernel_rfl) rfl rfl ?_; intro W18 BK19 HB20 HK21; have HB22 := Aside0.mk (below_at (below_step (below_step (below_step HB3.out HB7.out) HB11.out) HB17.out) HB20.out (by show w.heap.size ≤ g3; have z0_ := HB3.out.size; have z1_ := HG4.out; have z2_ := BK2.out.lt; have z3_ := HB7.out.size; have z4_ := HG8.out; have z5_ := BK6.out.lt; have z6_ := HB11.out.size; have z7_ := HB17.out.size; omega)); have HK23 := Aside0.mk (HK21.out); have F24 := Aside0.mk (StC.below HV0.out HB22.out); have F25 := Aside0.mk (BK19.out); have F26 := Aside0.mk (Bk.kept (Bk.below BK6.out (below_step HB11.out HB17.out)) HK23.out (fun h_ => (by obtain ⟨h1_, h2_⟩ := h_; have z0_ := HB3.out.size; have z1_ := HG4.out; have z2_ := BK2.out.lt; have z3_ := HB7.out.size; have z4_ := HG8.out; have z5_ := BK6.out.lt; have z6_ := HB11.out.size; have z7_ := HB17.out.size; omega))); have F27 := Aside0.mk (StR.kept HRs14.out HK23.out (fun k_ h_ => (by obtain ⟨h1_, h2_⟩ := h_; have z0_ := HB3.out.size; have z1_ := HG4.out; have z2_ := BK2.out.lt; have z3_ := HB7.out.size; have z4_ := HG8.out; have z5_ := BK6.out.lt; have z6_ := HB11.out.size; have z7_ := HB17.out.size; omega)))))
  refine (impl_who_c HW.out).mono ?_
  rintro e W28 ⟨rfl, hb29⟩
  have HB30 := Aside0.mk hb29
  clear hb29
  go_wp2_with (first | ((with_reducible refine gate_dst (N := 25) rfl ?_); refine ev_load rfl (N := 25) rfl rfl (g := g3) rfl (cs := #[.slice as14_0 s0.now.length ds14_0, .slice as14_1 s0.sure.length ds14_1, .slice as14_2 s0.last.length ds14_2, .slice as14_3 s0.slast.length ds14_3, .slice as14_4 s0.floors.length ds14_4]) (Bk.below F25.out HB30.out) hu25 rfl (by kernel_rfl) ?_) | ((with_reducible refine gate_store (t := 25) (p := 6) rfl ?_); refine ev_put (by rfl) rfl rfl (g := g6) rfl (cs := #[.slice as14_0 s0.now.length ds14_0, .slice as14_1 s0.sure.length ds14_1, .slice as14_2 s0.last.length ds14_2, .slice as14_3 s0.slast.length ds14_3, .slice as14_4 s0.floors.length ds14_4]) rfl (Bk.below F26.out HB30.out) (by kernel_rfl) rfl rfl ?_; intro W31 BK32 HB33 HK34; have HB35 := Aside0.mk (below_at (below_step HB22.out HB30.out) HB33.out (by show w.heap.size ≤ g6; have z0_ := HB3.out.size; have z1_ := HG4.out; have z2_ := BK2.out.lt; have z3_ := HB7.out.size; have z4_ := HG8.out; have z5_ := BK6.out.lt; have z6_ := HB11.out.size; have z7_ := HB17.out.size; have z8_ := HB22.out.size; have z9_ := HK23.out.1; have z10_ := HB30.out.size; omega)); have HK36 := Aside0.mk (HK34.out); have F37 := Aside0.mk (StC.below HV0.out HB35.out); have F38 := Aside0.mk (Bk.kept (Bk.below F25.out HB30.out) HK36.out (fun h_ => (by obtain ⟨h1_, h2_⟩ := h_; have z0_ := HB3.out.size; have z1_ := HG4.out; have z2_ := BK2.out.lt; have z3_ := HB7.out.size; have z4_ := HG8.out; have z5_ := BK6.out.lt; have z6_ := HB11.out.size; have z7_ := HB17.out.size; have z8_ := HB22.out.size; have z9_ := HK23.out.1; have z10_ := HB30.out.size; omega))); have F39 := Aside0.mk (StR.kept (StR.below F27.out HB30.out) HK36.out (fun k_ h_ => (by obtain ⟨h1_, h2_⟩ := h_; have z0_ := HB3.out.size; have z1_ := HG4.out; have z2_ := BK2.out.lt; have z3_ := HB7.out.size; have z4_ := HG8.out; have z5_ := BK6.out.lt; have z6_ := HB11.out.size; have z7_ := HB17.out.size; have z8_ := HB22.out.size; have z9_ := HK23.out.1; have z10_ := HB30.out.size; omega))); have F40 := Aside0.mk (BK32.out)))
  try go_wp2
  refine bodyPost_ret (results_ct rfl _ _ g6 25 #[.slice as14_0 s0.now.length ds14_0, .slice as14_1 s0.sure.length ds14_1, .slice as14_2 s0.last.length ds14_2, .slice as14_3 s0.slast.length ds14_3, .slice as14_4 s0.floors.length ds14_4] (0, 0) _ rfl F40.out hu25 rfl (by kernel_rfl)) rfl ?_
  exact ⟨_, rfl, StR.widen F39.out (by have z0_ := HB3.out.size; have z1_ := HG4.out; have z2_ := BK2.out.lt; have z3_ := HB7.out.size; have z4_ := HG8.out; have z5_ := BK6.out.lt; have z6_ := HB11.out.size; have z7_ := HB17.out.size; have z8_ := HB22.out.size; have z9_ := HK23.out.1; have z10_ := HB30.out.size; have z11_ := HB35.out.size; have z12_ := HK36.out.1; omega) (by have z0_ := HB3.out.size; have z1_ := HG4.out; have z2_ := BK2.out.lt; have z3_ := HB7.out.size; have z4_ := HG8.out; have z5_ := BK6.out.lt; have z6_ := HB11.out.size; have z7_ := HB17.out.size; have z8_ := HB22.out.size; have z9_ := HK23.out.1; have z10_ := HB30.out.size; have z11_ := HB35.out.size; have z12_ := HK36.out.1; omega), HB35.out⟩
set_option maxHeartbeats 8000000 in
set_option maxRecDepth 100000 in
theorem impl_StoreFence_p2 {w : World} {v0 : Value} {s0 : St} (hv0 : StC w v0 s0) (hz0 : Sized s0) (hs0 : Small s0) (a1 a2 : Int) (hk : stOk s0 = true) (hw : whoOk a1 = true) (h0 : a2 < 0) :
    Calls Try.prog 31 #[v0, .int .i64 a1, .int .i64 a2] w fun e w' => ∃ u, e = .returned (.tuple #[u, .bool false]) ∧ StR w' w.heap.size w'.heap.size u s0 ∧ Below w.heap.size w w' := by
  have HV0 := Aside0.mk hv0
  have HZ0 := Aside0.mk hz0
  obtain ⟨A0_0, c0_0, A0_1, c0_1, A0_2, c0_2, A0_3, c0_3, A0_4, c0_4, rfl, _⟩ := hv0
  have HS0 := Aside0.mk hs0
  clear hz0 hs0
  have HK := Aside0.mk hk
  clear hk
  have HW := Aside0.mk hw
  clear hw
  have hd0 : decide (a2 < 0) = true := decide_eq_true h0
  clear h0
  have hu25 := Try.underlying25
  go_enter Try.func31, Try.ntmps31
  go_wp2_with (first | ((with_reducible refine gate_dst (N := 3) rfl ?_); refine ev_box ?hg (N := 3) ?hd (cs := #[.slice A0_0 s0.now.length c0_0, .slice A0_1 s0.sure.length c0_1, .slice A0_2 s0.last.length c0_2, .slice A0_3 s0.slast.length c0_3, .slice A0_4 s0.floors.length c0_4]) (t := 25) ?hr ?_; (case hd => rfl); (case hg => rfl); (case hr => first | (go_simp; done) | (go_simp; rfl)); intro g3 W1 HG4 BK2 HB3) | ((with_reducible refine gate_dst (N := 6) rfl ?_); refine ev_box ?hg (N := 6) ?hd (cs := #[.slice none 0 0, .slice none 0 0, .slice none 0 0, .slice none 0 0, .slice none 0 0]) (t := 25) ?hr ?_; (case hd => rfl); (case hg => rfl); (case hr => first | (go_simp; done) | (go_simp; rfl)); intro g6 W5 HG8 BK6 HB7) | ((with_reducible refine gate_dst (N := 8) rfl ?_); refine ev_load rfl (N := 8) rfl rfl (g := g3) rfl (cs := #[.slice A0_0 s0.now.length c0_0, .slice A0_1 s0.sure.length c0_1, .slice A0_2 s0.last.length c0_2, .slice A0_3 s0.slast.length c0_3, .slice A0_4 s0.floors.length c0_4]) (Bk.below BK2.out HB7.out) hu25 rfl (by kernel_rfl) ?_))
  refine (impl_StoreOk_q (StC.below HV0.out (below_step HB3.out HB7.out)) HZ0.out HK.out).mono ?_
  rintro e W9 ⟨rfl, hb10⟩
  have HB11 := Aside0.mk hb10
  clear hb10
  go_wp2_with (first | ((with_reducible refine gate_dst (N := 12) rfl ?_); refine ev_load rfl (N := 12) rfl rfl (g := g3) rfl (cs := #[.slice A0_0 s0.now.length c0_0, .slice A0_1 s0.sure.length c0_1, .slice A0_2 s0.last.length c0_2, .slice A0_3 s0.slast.length c0_3, .slice A0_4 s0.floors.length c0_4]) (Bk.below BK2.out (below_step HB7.out HB11.out)) hu25 rfl (by kernel_rfl) ?_))
  refine (impl_again_c (StC.below HV0.out (below_step (below_step HB3.out HB7.out) HB11.out)) HS0.out).mono ?_
  rintro e W15 ⟨u12, rfl, hr13, hb16⟩
  have HB17 := Aside0.mk hb16
  clear hb16
  have HRs14 := Aside0.mk hr13
  obtain ⟨as14_0, ds14_0, as14_1, ds14_1, as14_2, ds14_2, as14_3, ds14_3, as14_4, ds14_4, rfl, _⟩ := hr13.toC
  clear hr13
  go_wp2_with (first | ((with_reducible refine gate_store (t := 25) (p := 3) rfl ?_); refine ev_put (by rfl) rfl rfl (g := g3) rfl (cs := #[.slice as14_0 s0.now.length ds14_0, .slice as14_1 s0.sure.length ds14_1, .slice as14_2 s0.last.length ds14_2, .slice as14_3 s0.slast.length ds14_3, .slice as14_4 s0.floors.length ds14_4]) rfl (Bk.below BK2.out (below_step (below_step HB7.out HB11.out) HB17.out)) (by kernel_rfl) rfl rfl ?_; intro W18 BK19 HB20 HK21; have HB22 := Aside0.mk (below_at (below_step (below_step (below_step HB3.out HB7.out) HB11.out) HB17.out) HB20.out (by show w.heap.size ≤ g3; have z0_ := HB3.out.size; have z1_ := HG4.out; have z2_ := BK2.out.lt; have z3_ := HB7.out.size; have z4_ := HG8.out; have z5_ := BK6.out.lt; have z6_ := HB11.out.size; have z7_ := HB17.out.size; omega)); have HK23 := Aside0.mk (HK21.out); have F24 := Aside0.mk (StC.below HV0.out HB22.out); have F25 := Aside0.mk (BK19.out); have F26 := Aside0.mk (Bk.kept (Bk.below BK6.out (below_step HB11.out HB17.out)) HK23.out (fun h_ => (by obtain ⟨h1_, h2_⟩ := h_; have z0_ := HB3.out.size; have z1_ := HG4.out; have z2_ := BK2.out.lt; have z3_ := HB7.out.size; have z4_ := HG8.out; have z5_ := BK6.out.lt; have z6_ := HB11.out.size; have z7_ := HB17.out.size; omega))); have F27 := Aside0.mk (StR.kept HRs14.out HK23.out (fun k_ h_ => (by obtain ⟨h1_, h2_⟩ := h_; have z0_ := HB3.out.size; have z1_ := HG4.out; have z2_ := BK2.out.lt; have z3_ := HB7.out.size; have z4_ := HG8.out; have z5_ := BK6.out.lt; have z6_ := HB11.out.size; have z7_ := HB17.out.size; omega)))))
  refine (impl_who_c HW.out).mono ?_
  rintro e W28 ⟨rfl, hb29⟩
  have HB30 := Aside0.mk hb29
  clear hb29
  go_wp2_with (first | ((with_reducible refine gate_dst (N := 25) rfl ?_); refine ev_load rfl (N := 25) rfl rfl (g := g3) rfl (cs := #[.slice as14_0 s0.now.length ds14_0, .slice as14_1 s0.sure.length ds14_1, .slice as14_2 s0.last.length ds14_2, .slice as14_3 s0.slast.length ds14_3, .slice as14_4 s0.floors.length ds14_4]) (Bk.below F25.out HB30.out) hu25 rfl (by kernel_rfl) ?_) | ((with_reducible refine gate_store (t := 25) (p := 6) rfl ?_); refine ev_put (by rfl) rfl rfl (g := g6) rfl (cs := #[.slice as14_0 s0.now.length ds14_0, .slice as14_1 s0.sure.length ds14_1, .slice as14_2 s0.last.length ds14_2, .slice as14_3 s0.slast.length ds14_3, .slice as14_4 s0.floors.length ds14_4]) rfl (Bk.below F26.out HB30.out) (by kernel_rfl) rfl rfl ?_; intro W31 BK32 HB33 HK34; have HB35 := Aside0.mk (below_at (below_step HB22.out HB30.out) HB33.out (by show w.heap.size ≤ g6; have z0_ := HB3.out.size; have z1_ := HG4.out; have z2_ := BK2.out.lt; have z3_ := HB7.out.size; have z4_ := HG8.out; have z5_ := BK6.out.lt; have z6_ := HB11.out.size; have z7_ := HB17.out.size; have z8_ := HB22.out.size; have z9_ := HK23.out.1; have z10_ := HB30.out.size; omega)); have HK36 := Aside0.mk (HK34.out); have F37 := Aside0.mk (StC.below HV0.out HB35.out); have F38 := Aside0.mk (Bk.kept (Bk.below F25.out HB30.out) HK36.out (fun h_ => (by obtain ⟨h1_, h2_⟩ := h_; have z0_ := HB3.out.size; have z1_ := HG4.out; have z2_ := BK2.out.lt; have z3_ := HB7.out.size; have z4_ := HG8.out; have z5_ := BK6.out.lt; have z6_ := HB11.out.size; have z7_ := HB17.out.size; have z8_ := HB22.out.size; have z9_ := HK23.out.1; have z10_ := HB30.out.size; omega))); have F39 := Aside0.mk (StR.kept (StR.below F27.out HB30.out) HK36.out (fun k_ h_ => (by obtain ⟨h1_, h2_⟩ := h_; have z0_ := HB3.out.size; have z1_ := HG4.out; have z2_ := BK2.out.lt; have z3_ := HB7.out.size; have z4_ := HG8.out; have z5_ := BK6.out.lt; have z6_ := HB11.out.size; have z7_ := HB17.out.size; have z8_ := HB22.out.size; have z9_ := HK23.out.1; have z10_ := HB30.out.size; omega))); have F40 := Aside0.mk (BK32.out)))
  try go_wp2
  refine bodyPost_ret (results_ct rfl _ _ g6 25 #[.slice as14_0 s0.now.length ds14_0, .slice as14_1 s0.sure.length ds14_1, .slice as14_2 s0.last.length ds14_2, .slice as14_3 s0.slast.length ds14_3, .slice as14_4 s0.floors.length ds14_4] (0, 0) _ rfl F40.out hu25 rfl (by kernel_rfl)) rfl ?_
  exact ⟨_, rfl, StR.widen F39.out (by have z0_ := HB3.out.size; have z1_ := HG4.out; have z2_ := BK2.out.lt; have z3_ := HB7.out.size; have z4_ := HG8.out; have z5_ := BK6.out.lt; have z6_ := HB11.out.size; have z7_ := HB17.out.size; have z8_ := HB22.out.size; have z9_ := HK23.out.1; have z10_ := HB30.out.size; have z11_ := HB35.out.size; have z12_ := HK36.out.1; omega) (by have z0_ := HB3.out.size; have z1_ := HG4.out; have z2_ := BK2.out.lt; have z3_ := HB7.out.size; have z4_ := HG8.out; have z5_ := BK6.out.lt; have z6_ := HB11.out.size; have z7_ := HB17.out.size; have z8_ := HB22.out.size; have z9_ := HK23.out.1; have z10_ := HB30.out.size; have z11_ := HB35.out.size; have z12_ := HK36.out.1; omega), HB35.out⟩
set_option maxHeartbeats 8000000 in
set_option maxRecDepth 100000 in
theorem impl_StoreFence_p3 {w : World} {v0 : Value} {s0 : St} (hv0 : StC w v0 s0) (hz0 : Sized s0) (hs0 : Small s0) (a1 a2 : Int) (hk : stOk s0 = true) (hw : whoOk a1 = true) (h0 : ¬ a2 < 0) (h1 : 100 < a2) :
    Calls Try.prog 31 #[v0, .int .i64 a1, .int .i64 a2] w fun e w' => ∃ u, e = .returned (.tuple #[u, .bool false]) ∧ StR w' w.heap.size w'.heap.size u s0 ∧ Below w.heap.size w w' := by
  have HV0 := Aside0.mk hv0
  have HZ0 := Aside0.mk hz0
  obtain ⟨A0_0, c0_0, A0_1, c0_1, A0_2, c0_2, A0_3, c0_3, A0_4, c0_4, rfl, _⟩ := hv0
  have HS0 := Aside0.mk hs0
  clear hz0 hs0
  have HK := Aside0.mk hk
  clear hk
  have HW := Aside0.mk hw
  clear hw
  have hd0 : decide (a2 < 0) = false := decide_eq_false h0
  clear h0
  have hd1 : decide (100 < a2) = true := decide_eq_true h1
  clear h1
  have hu25 := Try.underlying25
  go_enter Try.func31, Try.ntmps31
  go_wp2_with (first | ((with_reducible refine gate_dst (N := 3) rfl ?_); refine ev_box ?hg (N := 3) ?hd (cs := #[.slice A0_0 s0.now.length c0_0, .slice A0_1 s0.sure.length c0_1, .slice A0_2 s0.last.length c0_2, .slice A0_3 s0.slast.length c0_3, .slice A0_4 s0.floors.length c0_4]) (t := 25) ?hr ?_; (case hd => rfl); (case hg => rfl); (case hr => first | (go_simp; done) | (go_simp; rfl)); intro g3 W1 HG4 BK2 HB3) | ((with_reducible refine gate_dst (N := 6) rfl ?_); refine ev_box ?hg (N := 6) ?hd (cs := #[.slice none 0 0, .slice none 0 0, .slice none 0 0, .slice none 0 0, .slice none 0 0]) (t := 25) ?hr ?_; (case hd => rfl); (case hg => rfl); (case hr => first | (go_simp; done) | (go_simp; rfl)); intro g6 W5 HG8 BK6 HB7) | ((with_reducible refine gate_dst (N := 8) rfl ?_); refine ev_load rfl (N := 8) rfl rfl (g := g3) rfl (cs := #[.slice A0_0 s0.now.length c0_0, .slice A0_1 s0.sure.length c0_1, .slice A0_2 s0.last.length c0_2, .slice A0_3 s0.slast.length c0_3, .slice A0_4 s0.floors.length c0_4]) (Bk.below BK2.out HB7.out) hu25 rfl (by kernel_rfl) ?_))
  refine (impl_StoreOk_q (StC.below HV0.out (below_step HB3.out HB7.out)) HZ0.out HK.out).mono ?_
  rintro e W9 ⟨rfl, hb10⟩
  have HB11 := Aside0.mk hb10
  clear hb10
  go_wp2_with (first | ((with_reducible refine gate_dst (N := 12) rfl ?_); refine ev_load rfl (N := 12) rfl rfl (g := g3) rfl (cs := #[.slice A0_0 s0.now.length c0_0, .slice A0_1 s0.sure.length c0_1, .slice A0_2 s0.last.length c0_2, .slice A0_3 s0.slast.length c0_3, .slice A0_4 s0.floors.length c0_4]) (Bk.below BK2.out (below_step HB7.out HB11.out)) hu25 rfl (by kernel_rfl) ?_))
  refine (impl_again_c (StC.below HV0.out (below_step (below_step HB3.out HB7.out) HB11.out)) HS0.out).mono ?_
  rintro e W15 ⟨u12, rfl, hr13, hb16⟩
  have HB17 := Aside0.mk hb16
  clear hb16
  have HRs14 := Aside0.mk hr13
  obtain ⟨as14_0, ds14_0, as14_1, ds14_1, as14_2, ds14_2, as14_3, ds14_3, as14_4, ds14_4, rfl, _⟩ := hr13.toC
  clear hr13
  go_wp2_with (first | ((with_reducible refine gate_store (t := 25) (p := 3) rfl ?_); refine ev_put (by rfl) rfl rfl (g := g3) rfl (cs := #[.slice as14_0 s0.now.length ds14_0, .slice as14_1 s0.sure.length ds14_1, .slice as14_2 s0.last.length ds14_2, .slice as14_3 s0.slast.length ds14_3, .slice as14_4 s0.floors.length ds14_4]) rfl (Bk.below BK2.out (below_step (below_step HB7.out HB11.out) HB17.out)) (by kernel_rfl) rfl rfl ?_; intro W18 BK19 HB20 HK21; have HB22 := Aside0.mk (below_at (below_step (below_step (below_step HB3.out HB7.out) HB11.out) HB17.out) HB20.out (by show w.heap.size ≤ g3; have z0_ := HB3.out.size; have z1_ := HG4.out; have z2_ := BK2.out.lt; have z3_ := HB7.out.size; have z4_ := HG8.out; have z5_ := BK6.out.lt; have z6_ := HB11.out.size; have z7_ := HB17.out.size; omega)); have HK23 := Aside0.mk (HK21.out); have F24 := Aside0.mk (StC.below HV0.out HB22.out); have F25 := Aside0.mk (BK19.out); have F26 := Aside0.mk (Bk.kept (Bk.below BK6.out (below_step HB11.out HB17.out)) HK23.out (fun h_ => (by obtain ⟨h1_, h2_⟩ := h_; have z0_ := HB3.out.size; have z1_ := HG4.out; have z2_ := BK2.out.lt; have z3_ := HB7.out.size; have z4_ := HG8.out; have z5_ := BK6.out.lt; have z6_ := HB11.out.size; have z7_ := HB17.out.size; omega))); have F27 := Aside0.mk (StR.kept HRs14.out HK23.out (fun k_ h_ => (by obtain ⟨h1_, h2_⟩ := h_; have z0_ := HB3.out.size; have z1_ := HG4.out; have z2_ := BK2.out.lt; have z3_ := HB7.out.size; have z4_ := HG8.out; have z5_ := BK6.out.lt; have z6_ := HB11.out.size; have z7_ := HB17.out.size; omega)))))
  refine (impl_who_c HW.out).mono ?_
  rintro e W28 ⟨rfl, hb29⟩
  have HB30 := Aside0.mk hb29
  clear hb29
  go_wp2_with (first | ((with_reducible refine gate_dst (N := 25) rfl ?_); refine ev_load rfl (N := 25) rfl rfl (g := g3) rfl (cs := #[.slice as14_0 s0.now.length ds14_0, .slice as14_1 s0.sure.length ds14_1, .slice as14_2 s0.last.length ds14_2, .slice as14_3 s0.slast.length ds14_3, .slice as14_4 s0.floors.length ds14_4]) (Bk.below F25.out HB30.out) hu25 rfl (by kernel_rfl) ?_) | ((with_reducible refine gate_store (t := 25) (p := 6) rfl ?_); refine ev_put (by rfl) rfl rfl (g := g6) rfl (cs := #[.slice as14_0 s0.now.length ds14_0, .slice as14_1 s0.sure.length ds14_1, .slice as14_2 s0.last.length ds14_2, .slice as14_3 s0.slast.length ds14_3, .slice as14_4 s0.floors.length ds14_4]) rfl (Bk.below F26.out HB30.out) (by kernel_rfl) rfl rfl ?_; intro W31 BK32 HB33 HK34; have HB35 := Aside0.mk (below_at (below_step HB22.out HB30.out) HB33.out (by show w.heap.size ≤ g6; have z0_ := HB3.out.size; have z1_ := HG4.out; have z2_ := BK2.out.lt; have z3_ := HB7.out.size; have z4_ := HG8.out; have z5_ := BK6.out.lt; have z6_ := HB11.out.size; have z7_ := HB17.out.size; have z8_ := HB22.out.size; have z9_ := HK23.out.1; have z10_ := HB30.out.size; omega)); have HK36 := Aside0.mk (HK34.out); have F37 := Aside0.mk (StC.below HV0.out HB35.out); have F38 := Aside0.mk (Bk.kept (Bk.below F25.out HB30.out) HK36.out (fun h_ => (by obtain ⟨h1_, h2_⟩ := h_; have z0_ := HB3.out.size; have z1_ := HG4.out; have z2_ := BK2.out.lt; have z3_ := HB7.out.size; have z4_ := HG8.out; have z5_ := BK6.out.lt; have z6_ := HB11.out.size; have z7_ := HB17.out.size; have z8_ := HB22.out.size; have z9_ := HK23.out.1; have z10_ := HB30.out.size; omega))); have F39 := Aside0.mk (StR.kept (StR.below F27.out HB30.out) HK36.out (fun k_ h_ => (by obtain ⟨h1_, h2_⟩ := h_; have z0_ := HB3.out.size; have z1_ := HG4.out; have z2_ := BK2.out.lt; have z3_ := HB7.out.size; have z4_ := HG8.out; have z5_ := BK6.out.lt; have z6_ := HB11.out.size; have z7_ := HB17.out.size; have z8_ := HB22.out.size; have z9_ := HK23.out.1; have z10_ := HB30.out.size; omega))); have F40 := Aside0.mk (BK32.out)))
  try go_wp2
  refine bodyPost_ret (results_ct rfl _ _ g6 25 #[.slice as14_0 s0.now.length ds14_0, .slice as14_1 s0.sure.length ds14_1, .slice as14_2 s0.last.length ds14_2, .slice as14_3 s0.slast.length ds14_3, .slice as14_4 s0.floors.length ds14_4] (0, 0) _ rfl F40.out hu25 rfl (by kernel_rfl)) rfl ?_
  exact ⟨_, rfl, StR.widen F39.out (by have z0_ := HB3.out.size; have z1_ := HG4.out; have z2_ := BK2.out.lt; have z3_ := HB7.out.size; have z4_ := HG8.out; have z5_ := BK6.out.lt; have z6_ := HB11.out.size; have z7_ := HB17.out.size; have z8_ := HB22.out.size; have z9_ := HK23.out.1; have z10_ := HB30.out.size; have z11_ := HB35.out.size; have z12_ := HK36.out.1; omega) (by have z0_ := HB3.out.size; have z1_ := HG4.out; have z2_ := BK2.out.lt; have z3_ := HB7.out.size; have z4_ := HG8.out; have z5_ := BK6.out.lt; have z6_ := HB11.out.size; have z7_ := HB17.out.size; have z8_ := HB22.out.size; have z9_ := HK23.out.1; have z10_ := HB30.out.size; have z11_ := HB35.out.size; have z12_ := HK36.out.1; omega), HB35.out⟩
set_option maxHeartbeats 8000000 in
set_option maxRecDepth 100000 in
theorem impl_StoreFence_p4 {w : World} {v0 : Value} {s0 : St} (hv0 : StC w v0 s0) (hz0 : Sized s0) (hs0 : Small s0) (a1 a2 : Int) (hk : stOk s0 = true) (hw : whoOk a1 = true) (h0 : ¬ a2 < 0) (h1 : ¬ 100 < a2) (hi0 : 0 ≤ a1) (hi1 : a1 < s0.floors.length) {m : Int} (hm : (if rd s0.floors a1 < a2 then a2 else rd s0.floors a1) = m) :
    Calls Try.prog 31 #[v0, .int .i64 a1, .int .i64 a2] w fun e w' => ∃ u, e = .returned (.tuple #[u, .bool true]) ∧ StR w' w.heap.size w'.heap.size u { s0 with floors := s0.floors.set a1.toNat m } ∧ Below w.heap.size w w' := by
  have HV0 := Aside0.mk hv0
  have HZ0 := Aside0.mk hz0
  obtain ⟨A0_0, c0_0, A0_1, c0_1, A0_2, c0_2, A0_3, c0_3, A0_4, c0_4, rfl, _⟩ := hv0
  have HS0 := Aside0.mk hs0
  clear hz0 hs0
  have HK := Aside0.mk hk
  clear hk
  have HW := Aside0.mk hw
  clear hw
  have hd0 : decide (a2 < 0) = false := decide_eq_false h0
  clear h0
  have hd1 : decide (100 < a2) = false := decide_eq_false h1
  clear h1
  have hp0 := eq_true hi0
  have hp1 := eq_true hi1
  have HI0 := Aside0.mk hi0
  have HI1 := Aside0.mk hi1
  clear hi0 hi1
  have hm_ : (if rd s0.floors a1 < a2 then a2 else rd s0.floors a1) = m := hm
  clear hm
  have hu25 := Try.underlying25
  go_enter Try.func31, Try.ntmps31
  go_wp2_with (first | ((with_reducible refine gate_dst (N := 3) rfl ?_); refine ev_box ?hg (N := 3) ?hd (cs := #[.slice A0_0 s0.now.length c0_0, .slice A0_1 s0.sure.length c0_1, .slice A0_2 s0.last.length c0_2, .slice A0_3 s0.slast.length c0_3, .slice A0_4 s0.floors.length c0_4]) (t := 25) ?hr ?_; (case hd => rfl); (case hg => rfl); (case hr => first | (go_simp; done) | (go_simp; rfl)); intro g3 W1 HG4 BK2 HB3) | ((with_reducible refine gate_dst (N := 6) rfl ?_); refine ev_box ?hg (N := 6) ?hd (cs := #[.slice none 0 0, .slice none 0 0, .slice none 0 0, .slice none 0 0, .slice none 0 0]) (t := 25) ?hr ?_; (case hd => rfl); (case hg => rfl); (case hr => first | (go_simp; done) | (go_simp; rfl)); intro g6 W5 HG8 BK6 HB7) | ((with_reducible refine gate_dst (N := 8) rfl ?_); refine ev_load rfl (N := 8) rfl rfl (g := g3) rfl (cs := #[.slice A0_0 s0.now.length c0_0, .slice A0_1 s0.sure.length c0_1, .slice A0_2 s0.last.length c0_2, .slice A0_3 s0.slast.length c0_3, .slice A0_4 s0.floors.length c0_4]) (Bk.below BK2.out HB7.out) hu25 rfl (by kernel_rfl) ?_))
  refine (impl_StoreOk_q (StC.below HV0.out (below_step HB3.out HB7.out)) HZ0.out HK.out).mono ?_
  rintro e W9 ⟨rfl, hb10⟩
  have HB11 := Aside0.mk hb10
  clear hb10
  go_wp2_with (first | ((with_reducible refine gate_dst (N := 12) rfl ?_); refine ev_load rfl (N := 12) rfl rfl (g := g3) rfl (cs := #[.slice A0_0 s0.now.length c0_0, .slice A0_1 s0.sure.length c0_1, .slice A0_2 s0.last.length c0_2, .slice A0_3 s0.slast.length c0_3, .slice A0_4 s0.floors.length c0_4]) (Bk.below BK2.out (below_step HB7.out HB11.out)) hu25 rfl (by kernel_rfl) ?_))
  refine (impl_again_c (StC.below HV0.out (below_step (below_step HB3.out HB7.out) HB11.out)) HS0.out).mono ?_
  rintro e W15 ⟨u12, rfl, hr13, hb16⟩
  have HB17 := Aside0.mk hb16
  clear hb16
  have HRs14 := Aside0.mk hr13
  obtain ⟨as14_0, ds14_0, as14_1, ds14_1, as14_2, ds14_2, as14_3, ds14_3, as14_4, ds14_4, rfl, _⟩ := hr13.toC
  clear hr13
  obtain ⟨g18, rfl⟩ := StR.floors_form HRs14.out HI0.out HI1.out
  have GL19 := Aside0.mk (StR.floors_cell HRs14.out HI0.out HI1.out).1
  have GH20 := Aside0.mk (StR.floors_cell HRs14.out HI0.out HI1.out).2.1
  go_wp2_with (first | ((with_reducible refine gate_store (t := 25) (p := 3) rfl ?_); refine ev_put (by rfl) rfl rfl (g := g3) rfl (cs := #[.slice as14_0 s0.now.length ds14_0, .slice as14_1 s0.sure.length ds14_1, .slice as14_2 s0.last.length ds14_2, .slice as14_3 s0.slast.length ds14_3, .slice (some ⟨g18, 0, none⟩) s0.floors.length ds14_4]) rfl (Bk.below BK2.out (below_step (below_step HB7.out HB11.out) HB17.out)) (by kernel_rfl) rfl rfl ?_; intro W21 BK22 HB23 HK24; have HB25 := Aside0.mk (below_at (below_step (below_step (below_step HB3.out HB7.out) HB11.out) HB17.out) HB23.out (by show w.heap.size ≤ g3; have z0_ := HB3.out.size; have z1_ := HG4.out; have z2_ := BK2.out.lt; have z3_ := HB7.out.size; have z4_ := HG8.out; have z5_ := BK6.out.lt; have z6_ := HB11.out.size; have z7_ := HB17.out.size; have z8_ := GL19.out; have z9_ := GH20.out; omega)); have HK26 := Aside0.mk (HK24.out); have F27 := Aside0.mk (StC.below HV0.out HB25.out); have F28 := Aside0.mk (BK22.out); have F29 := Aside0.mk (Bk.kept (Bk.below BK6.out (below_step HB11.out HB17.out)) HK26.out (fun h_ => (by obtain ⟨h1_, h2_⟩ := h_; have z0_ := HB3.out.size; have z1_ := HG4.out; have z2_ := BK2.out.lt; have z3_ := HB7.out.size; have z4_ := HG8.out; have z5_ := BK6.out.lt; have z6_ := HB11.out.size; have z7_ := HB17.out.size; have z8_ := GL19.out; have z9_ := GH20.out; omega))); have F30 := Aside0.mk (StR.kept HRs14.out HK26.out (fun k_ h_ => (by obtain ⟨h1_, h2_⟩ := h_; have z0_ := HB3.out.size; have z1_ := HG4.out; have z2_ := BK2.out.lt; have z3_ := HB7.out.size; have z4_ := HG8.out; have z5_ := BK6.out.lt; have z6_ := HB11.out.size; have z7_ := HB17.out.size; have z8_ := GL19.out; have z9_ := GH20.out; omega)))))
  refine (impl_who_c HW.out).mono ?_
  rintro e W31 ⟨rfl, hb32⟩
  have HB33 := Aside0.mk hb32
  clear hb32
  go_wp2_with (fail)
  refine start_ (n := 12) (S := fun w' => Bk w' g3 #[.slice as14_0 s0.now.length ds14_0, .slice as14_1 s0.sure.length ds14_1, .slice as14_2 s0.last.length ds14_2, .slice as14_3 s0.slast.length ds14_3, .slice (some ⟨g18, 0, none⟩) s0.floors.length ds14_4] 25 ∧ w'.cell? ⟨g18, a1.toNat, none⟩ = some (.int .i64 (rd s0.floors a1))) (ds := [11]) #[false, false, false, false, false, false, false, false, false, false, false, false] (by kernel_rfl) rfl rfl ⟨(show Bk W31 g3 #[.slice as14_0 s0.now.length ds14_0, .slice as14_1 s0.sure.length ds14_1, .slice as14_2 s0.last.length ds14_2, .slice as14_3 s0.slast.length ds14_3, .slice (some ⟨g18, 0, none⟩) s0.floors.length ds14_4] 25 from (Bk.below F28.out HB33.out)), (StR.floors_cell (StR.below F30.out HB33.out) HI0.out HI1.out).2.2.1⟩ (fun hHeld => ?_)
  clear hHeld
  refine world_at (w := W31) (below_drew0 _) (fun W34 HB35 => ?_)
  refine pure_ (i := 0) (N := some 26) (v := ?_) (a' := ?_) #[true, false, false, false, false, false, false, false, false, false, false, false] rfl rfl (by kernel_rfl) (fun _ _ _ h => h) (Or.inl ⟨by rfl, ?_⟩) ?_ ?_
  rotate_left
  · intro w'
    go_simp
    with_reducible rfl
  rotate_left
  · simp only [Act.put, List.setIfInBounds_toArray, List.set_cons_zero, List.set_cons_succ, i64_w, i32_w]
    rfl
  refine take_ (i := 1) (N := some 27) (v := .slice (some ⟨g18, 0, none⟩) s0.floors.length ds14_4) (a' := ?_) #[true, true, false, false, false, false, false, false, false, false, false, false] rfl rfl (by kernel_rfl) (fun _ _ _ h => h) (Or.inl ⟨by rfl, ?_⟩) ⟨(Bk.below F28.out (below_step HB33.out HB35.out)), (StR.floors_cell (StR.below F30.out (below_step HB33.out HB35.out)) HI0.out HI1.out).2.2.1⟩ ?_ ?_
  · rintro w' ⟨s0_, s1_⟩
    have hc_ : w'.cell? ⟨g3, 4, none⟩ = some (.slice (some ⟨g18, 0, none⟩) s0.floors.length ds14_4) := (Bk.cell s0_ 4).trans rfl
    first | (go_simp; done) | (go_simp; with_reducible rfl) | (go_simp; rfl)
  rotate_left
  · simp only [Act.put, List.setIfInBounds_toArray, List.set_cons_zero, List.set_cons_succ, i64_w, i32_w]
    rfl
  refine pure_ (i := 2) (N := some 28) (v := ?_) (a' := ?_) #[true, true, true, false, false, false, false, false, false, false, false, false] rfl rfl (by kernel_rfl) (fun _ _ _ h => h) (Or.inl ⟨by rfl, ?_⟩) ?_ ?_
  rotate_left
  · intro w'
    go_simp
    with_reducible rfl
  rotate_left
  · simp only [Act.put, List.setIfInBounds_toArray, List.set_cons_zero, List.set_cons_succ, i64_w, i32_w]
    rfl
  refine pure_ (i := 3) (N := some 29) (v := ?_) (a' := ?_) #[true, true, true, true, false, false, false, false, false, false, false, false] rfl rfl (by kernel_rfl) (fun _ _ _ h => h) (Or.inl ⟨by rfl, ?_⟩) ?_ ?_
  rotate_left
  · intro w'
    go_simp
    with_reducible rfl
  rotate_left
  · simp only [Act.put, List.setIfInBounds_toArray, List.set_cons_zero, List.set_cons_succ, i64_w, i32_w]
    rfl
  refine take_ (i := 4) (N := some 30) (v := .slice (some ⟨g18, 0, none⟩) s0.floors.length ds14_4) (a' := ?_) #[true, true, true, true, true, false, false, false, false, false, false, false] rfl rfl (by kernel_rfl) (fun _ _ _ h => h) (Or.inl ⟨by rfl, ?_⟩) ⟨(Bk.below F28.out (below_step HB33.out HB35.out)), (StR.floors_cell (StR.below F30.out (below_step HB33.out HB35.out)) HI0.out HI1.out).2.2.1⟩ ?_ ?_
  · rintro w' ⟨s0_, s1_⟩
    have hc_ : w'.cell? ⟨g3, 4, none⟩ = some (.slice (some ⟨g18, 0, none⟩) s0.floors.length ds14_4) := (Bk.cell s0_ 4).trans rfl
    first | (go_simp; done) | (go_simp; with_reducible rfl) | (go_simp; rfl)
  rotate_left
  · simp only [Act.put, List.setIfInBounds_toArray, List.set_cons_zero, List.set_cons_succ, i64_w, i32_w]
    rfl
  refine pure_ (i := 5) (N := some 31) (v := ?_) (a' := ?_) #[true, true, true, true, true, true, false, false, false, false, false, false] rfl rfl (by kernel_rfl) (fun _ _ _ h => h) (Or.inl ⟨by rfl, ?_⟩) ?_ ?_
  rotate_left
  · intro w'
    go_simp
    with_reducible rfl
  rotate_left
  · simp only [Act.put, List.setIfInBounds_toArray, List.set_cons_zero, List.set_cons_succ, i64_w, i32_w]
    rfl
  refine pure_ (i := 6) (N := some 32) (v := ?_) (a' := ?_) #[true, true, true, true, true, true, true, false, false, false, false, false] rfl rfl (by kernel_rfl) (fun _ _ _ h => h) (Or.inl ⟨by rfl, ?_⟩) ?_ ?_
  rotate_left
  · intro w'
    go_simp
    with_reducible rfl
  rotate_left
  · simp only [Act.put, List.setIfInBounds_toArray, List.set_cons_zero, List.set_cons_succ, i64_w, i32_w]
    rfl
  refine take_ (i := 7) (N := some 33) (v := .int .i64 (rd s0.floors a1)) (a' := ?_) #[true, true, true, true, true, true, true, true, false, false, false, false] rfl rfl (by kernel_rfl) (fun _ _ _ h => h) (Or.inl ⟨by rfl, ?_⟩) ⟨(Bk.below F28.out (below_step HB33.out HB35.out)), (StR.floors_cell (StR.below F30.out (below_step HB33.out HB35.out)) HI0.out HI1.out).2.2.1⟩ ?_ ?_
  · rintro w' ⟨s0_, s1_⟩
    first | (go_simp; done) | (go_simp; with_reducible rfl) | (go_simp; rfl)
  rotate_left
  · simp only [Act.put, List.setIfInBounds_toArray, List.set_cons_zero, List.set_cons_succ, i64_w, i32_w]
    rfl
  refine pure_ (i := 8) (N := some 34) (v := ?_) (a' := ?_) #[true, true, true, true, true, true, true, true, true, false, false, false] rfl rfl (by kernel_rfl) (fun _ _ _ h => h) (Or.inl ⟨by rfl, ?_⟩) ?_ ?_
  rotate_left
  · intro w'
    go_simp
    with_reducible rfl
  rotate_left
  · simp only [Act.put, List.setIfInBounds_toArray, List.set_cons_zero, List.set_cons_succ, i64_w, i32_w]
    rfl
  refine pure_ (i := 9) (N := some 35) (v := ?_) (a' := ?_) #[true, true, true, true, true, true, true, true, true, true, false, false] rfl rfl (by kernel_rfl) (fun _ _ _ h => h) (Or.inl ⟨by rfl, ?_⟩) ?_ ?_
  rotate_left
  · intro w'
    go_simp
    with_reducible rfl
  rotate_left
  · simp only [Act.put, List.setIfInBounds_toArray, List.set_cons_zero, List.set_cons_succ, i64_w, i32_w]
    rfl
  refine pure_ (i := 10) (N := some 36) (v := ?_) (a' := ?_) #[true, true, true, true, true, true, true, true, true, true, true, false] rfl rfl (by kernel_rfl) (fun _ _ _ h => h) (Or.inl ⟨by rfl, ?_⟩) ?_ ?_
  rotate_left
  · intro w'
    go_simp
    with_reducible rfl
  rotate_left
  · simp only [Act.put, List.setIfInBounds_toArray, List.set_cons_zero, List.set_cons_succ, i64_w, i32_w]
    rfl
  refine last_ (i := 11) (N := none) #[true, true, true, true, true, true, true, true, true, true, true, true] rfl rfl (by kernel_rfl) (by decide) (fun K hK => ?_)
  refine skip_ (w1 := W34.setCell ⟨g18, a1.toNat, none⟩ (.int .i64 m)) (by rfl) rfl ?_ ?_
  · have hc_ := (StR.floors_cell (StR.below F30.out (below_step HB33.out HB35.out)) HI0.out HI1.out).2.2.1
    have hf_ := (StR.floors_cell (StR.below F30.out (below_step HB33.out HB35.out)) HI0.out HI1.out).2.2.2.1
    first | (go_simp; done) | (go_simp; rfl)
  refine hK.out _ _ ?_
  clear hK K
  refine done_ (by kernel_rfl) ?_
  refine set_event (fun W36 e37 => ?_)
  have HB38 := Aside0.mk (below_at (below_step HB25.out (below_step HB33.out HB35.out)) (below_setcell e37) (by show w.heap.size ≤ g18; have z0_ := HB3.out.size; have z1_ := HG4.out; have z2_ := BK2.out.lt; have z3_ := HB7.out.size; have z4_ := HG8.out; have z5_ := BK6.out.lt; have z6_ := HB11.out.size; have z7_ := HB17.out.size; have z8_ := GL19.out; have z9_ := GH20.out; have z10_ := HB25.out.size; have z11_ := HK26.out.1; have z12_ := HB33.out.size; have z13_ := HB35.out.size; omega)); have HK39 := Aside0.mk (kept_set e37); have F40 := Aside0.mk (StC.below HV0.out HB38.out); have F41 := Aside0.mk (Bk.kept (Bk.below F28.out (below_step HB33.out HB35.out)) HK39.out (fun h_ => (by obtain ⟨h1_, h2_⟩ := h_; have z0_ := HB3.out.size; have z1_ := HG4.out; have z2_ := BK2.out.lt; have z3_ := HB7.out.size; have z4_ := HG8.out; have z5_ := BK6.out.lt; have z6_ := HB11.out.size; have z7_ := HB17.out.size; have z8_ := GL19.out; have z9_ := GH20.out; have z10_ := HB25.out.size; have z11_ := HK26.out.1; have z12_ := HB33.out.size; have z13_ := HB35.out.size; omega))); have F42 := Aside0.mk ((StR.floors_cell (StR.below F30.out (below_step HB33.out HB35.out)) HI0.out HI1.out).2.2.2.2 (m) _ e37); have F43 := Aside0.mk (Bk.kept (Bk.below F29.out (below_step HB33.out HB35.out)) HK39.out (fun h_ => (by obtain ⟨h1_, h2_⟩ := h_; have z0_ := HB3.out.size; have z1_ := HG4.out; have z2_ := BK2.out.lt; have z3_ := HB7.out.size; have z4_ := HG8.out; have z5_ := BK6.out.lt; have z6_ := HB11.out.size; have z7_ := HB17.out.size; have z8_ := GL19.out; have z9_ := GH20.out; have z10_ := HB25.out.size; have z11_ := HK26.out.1; have z12_ := HB33.out.size; have z13_ := HB35.out.size; omega))); clear e37
  go_wp2_with (first | ((with_reducible refine gate_dst (N := 37) rfl ?_); refine ev_load rfl (N := 37) rfl rfl (g := g3) rfl (cs := #[.slice as14_0 s0.now.length ds14_0, .slice as14_1 s0.sure.length ds14_1, .slice as14_2 s0.last.length ds14_2, .slice as14_3 s0.slast.length ds14_3, .slice (some ⟨g18, 0, none⟩) s0.floors.length ds14_4]) F41.out hu25 rfl (by kernel_rfl) ?_) | ((with_reducible refine gate_store (t := 25) (p := 6) rfl ?_); refine ev_put (by rfl) rfl rfl (g := g6) rfl (cs := #[.slice as14_0 s0.now.length ds14_0, .slice as14_1 s0.sure.length ds14_1, .slice as14_2 s0.last.length ds14_2, .slice as14_3 s0.slast.length ds14_3, .slice (some ⟨g18, 0, none⟩) s0.floors.length ds14_4]) rfl F43.out (by kernel_rfl) rfl rfl ?_; intro W44 BK45 HB46 HK47; have HB48 := Aside0.mk (below_at HB38.out HB46.out (by show w.heap.size ≤ g6; have z0_ := HB3.out.size; have z1_ := HG4.out; have z2_ := BK2.out.lt; have z3_ := HB7.out.size; have z4_ := HG8.out; have z5_ := BK6.out.lt; have z6_ := HB11.out.size; have z7_ := HB17.out.size; have z8_ := GL19.out; have z9_ := GH20.out; have z10_ := HB25.out.size; have z11_ := HK26.out.1; have z12_ := HB33.out.size; have z13_ := HB35.out.size; have z14_ := HB38.out.size; have z15_ := HK39.out.1; omega)); have HK49 := Aside0.mk (HK47.out); have F50 := Aside0.mk (StC.below HV0.out HB48.out); have F51 := Aside0.mk (Bk.kept F41.out HK49.out (fun h_ => (by obtain ⟨h1_, h2_⟩ := h_; have z0_ := HB3.out.size; have z1_ := HG4.out; have z2_ := BK2.out.lt; have z3_ := HB7.out.size; have z4_ := HG8.out; have z5_ := BK6.out.lt; have z6_ := HB11.out.size; have z7_ := HB17.out.size; have z8_ := GL19.out; have z9_ := GH20.out; have z10_ := HB25.out.size; have z11_ := HK26.out.1; have z12_ := HB33.out.size; have z13_ := HB35.out.size; have z14_ := HB38.out.size; have z15_ := HK39.out.1; omega))); have F52 := Aside0.mk (StR.kept F42.out HK49.out (fun k_ h_ => (by obtain ⟨h1_, h2_⟩ := h_; have z0_ := HB3.out.size; have z1_ := HG4.out; have z2_ := BK2.out.lt; have z3_ := HB7.out.size; have z4_ := HG8.out; have z5_ := BK6.out.lt; have z6_ := HB11.out.size; have z7_ := HB17.out.size; have z8_ := GL19.out; have z9_ := GH20.out; have z10_ := HB25.out.size; have z11_ := HK26.out.1; have z12_ := HB33.out.size; have z13_ := HB35.out.size; have z14_ := HB38.out.size; have z15_ := HK39.out.1; omega))); have F53 := Aside0.mk (BK45.out)))
  try go_wp2
  refine bodyPost_ret (results_ct rfl _ _ g6 25 #[.slice as14_0 s0.now.length ds14_0, .slice as14_1 s0.sure.length ds14_1, .slice as14_2 s0.last.length ds14_2, .slice as14_3 s0.slast.length ds14_3, .slice (some ⟨g18, 0, none⟩) s0.floors.length ds14_4] (0, 0) _ rfl F53.out hu25 rfl (by kernel_rfl)) rfl ?_
  exact ⟨_, rfl, StR.widen F52.out (by have z0_ := HB3.out.size; have z1_ := HG4.out; have z2_ := BK2.out.lt; have z3_ := HB7.out.size; have z4_ := HG8.out; have z5_ := BK6.out.lt; have z6_ := HB11.out.size; have z7_ := HB17.out.size; have z8_ := GL19.out; have z9_ := GH20.out; have z10_ := HB25.out.size; have z11_ := HK26.out.1; have z12_ := HB33.out.size; have z13_ := HB35.out.size; have z14_ := HB38.out.size; have z15_ := HK39.out.1; have z16_ := HB48.out.size; have z17_ := HK49.out.1; omega) (by have z0_ := HB3.out.size; have z1_ := HG4.out; have z2_ := BK2.out.lt; have z3_ := HB7.out.size; have z4_ := HG8.out; have z5_ := BK6.out.lt; have z6_ := HB11.out.size; have z7_ := HB17.out.size; have z8_ := GL19.out; have z9_ := GH20.out; have z10_ := HB25.out.size; have z11_ := HK26.out.1; have z12_ := HB33.out.size; have z13_ := HB35.out.size; have z14_ := HB38.out.size; have z15_ := HK39.out.1; have z16_ := HB48.out.size; have z17_ := HK49.out.1; omega), HB48.out⟩
end Go.Proofs.Ytolmblfffnnabaa.P
namespace Go.Proofs.Ytolmblfffnnabaa.P
open Go.RowKit Go.Proofs.YtolmblfffnnabaaW.PrintWords Go.Proofs.YtolmblfffnnabaaW.PrintLast Go.Proofs.YtolmblfffnnabaaW.PrintMore
attribute [local go_sem] max2_int min2_int max_two min_two
set_option linter.unusedVariables false
set_option linter.unusedSimpArgs false
set_option maxHeartbeats 8000000 in
set_option maxRecDepth 100000 in
theorem spec_StoreFence_p0 {w : World} {v0 : Value} {s0 : St} (hv0 : StC w v0 s0) (hz0 : Sized s0) (hs0 : Small s0) (a1 a2 : Int) (hk : stOk s0 = false) :
    Calls Try.prog 30 #[v0, .int .i64 a1, .int .i64 a2] w fun e w' => ∃ u, e = .returned (.tuple #[u, .bool false]) ∧ StR w' w.heap.size w'.heap.size u stNone ∧ Below w.heap.size w w' := by
  have HV0 := Aside0.mk hv0
  have HZ0 := Aside0.mk hz0
  obtain ⟨A0_0, c0_0, A0_1, c0_1, A0_2, c0_2, A0_3, c0_3, A0_4, c0_4, rfl, _⟩ := hv0
  have HS0 := Aside0.mk hs0
  clear hz0 hs0
  have HK := Aside0.mk hk
  clear hk
  have hu25 := Try.underlying25
  go_enter Try.func30, Try.ntmps30
  go_wp2_with (first | ((with_reducible refine gate_dst (N := 3) rfl ?_); refine ev_box ?hg (N := 3) ?hd (cs := #[.slice A0_0 s0.now.length c0_0, .slice A0_1 s0.sure.length c0_1, .slice A0_2 s0.last.length c0_2, .slice A0_3 s0.slast.length c0_3, .slice A0_4 s0.floors.length c0_4]) (t := 25) ?hr ?_; (case hd => rfl); (case hg => rfl); (case hr => first | (go_simp; done) | (go_simp; rfl)); intro g3 W1 HG4 BK2 HB3) | ((with_reducible refine gate_dst (N := 6) rfl ?_); refine ev_box ?hg (N := 6) ?hd (cs := #[.slice none 0 0, .slice none 0 0, .slice none 0 0, .slice none 0 0, .slice none 0 0]) (t := 25) ?hr ?_; (case hd => rfl); (case hg => rfl); (case hr => first | (go_simp; done) | (go_simp; rfl)); intro g6 W5 HG8 BK6 HB7) | ((with_reducible refine gate_dst (N := 9) rfl ?_); refine ev_load rfl (N := 9) rfl rfl (g := g3) rfl (cs := #[.slice A0_0 s0.now.length c0_0, .slice A0_1 s0.sure.length c0_1, .slice A0_2 s0.last.length c0_2, .slice A0_3 s0.slast.length c0_3, .slice A0_4 s0.floors.length c0_4]) (Bk.below BK2.out HB7.out) hu25 rfl (by kernel_rfl) ?_))
  refine (spec_StoreOk_q (StC.below HV0.out (below_step HB3.out HB7.out)) HZ0.out HK.out).mono ?_
  rintro e W9 ⟨rfl, hb10⟩
  have HB11 := Aside0.mk hb10
  clear hb10
  go_wp2_with (first | ((with_reducible refine gate_store (t := 25) (p := 6) rfl ?_); refine ev_put (by rfl) rfl rfl (g := g6) rfl (cs := #[.slice none 0 0, .slice none 0 0, .slice none 0 0, .slice none 0 0, .slice none 0 0]) rfl (Bk.below BK6.out HB11.out) (by kernel_rfl) rfl rfl ?_; intro W12 BK13 HB14 HK15; have HB16 := Aside0.mk (below_at (below_step (below_step HB3.out HB7.out) HB11.out) HB14.out (by show w.heap.size ≤ g6; have z0_ := HB3.out.size; have z1_ := HG4.out; have z2_ := BK2.out.lt; have z3_ := HB7.out.size; have z4_ := HG8.out; have z5_ := BK6.out.lt; have z6_ := HB11.out.size; omega)); have HK17 := Aside0.mk (HK15.out); have F18 := Aside0.mk (StC.below HV0.out HB16.out); have F19 := Aside0.mk (Bk.kept (Bk.below BK2.out (below_step HB7.out HB11.out)) HK17.out (fun h_ => (by obtain ⟨h1_, h2_⟩ := h_; have z0_ := HB3.out.size; have z1_ := HG4.out; have z2_ := BK2.out.lt; have z3_ := HB7.out.size; have z4_ := HG8.out; have z5_ := BK6.out.lt; have z6_ := HB11.out.size; omega))); have F20 := Aside0.mk (BK13.out)))
  try go_wp2
  refine bodyPost_ret (results_ct rfl _ _ g6 25 #[.slice none 0 0, .slice none 0 0, .slice none 0 0, .slice none 0 0, .slice none 0 0] (0, 0) _ rfl F20.out hu25 rfl (by kernel_rfl)) rfl ?_
  exact ⟨_, rfl, StR.zero _ _, HB16.out⟩
set_option maxHeartbeats 8000000 in
set_option maxRecDepth 100000 in
theorem spec_StoreFence_p1 {w : World} {v0 : Value} {s0 : St} (hv0 : StC w v0 s0) (hz0 : Sized s0) (hs0 : Small s0) (a1 a2 : Int) (hk : stOk s0 = true) (hw : whoOk a1 = false) :
    Calls Try.prog 30 #[v0, .int .i64 a1, .int .i64 a2] w fun e w' => ∃ u, e = .returned (.tuple #[u, .bool false]) ∧ StR w' w.heap.size w'.heap.size u s0 ∧ Below w.heap.size w w' := by
  have HV0 := Aside0.mk hv0
  have HZ0 := Aside0.mk hz0
  obtain ⟨A0_0, c0_0, A0_1, c0_1, A0_2, c0_2, A0_3, c0_3, A0_4, c0_4, rfl, _⟩ := hv0
  have HS0 := Aside0.mk hs0
  clear hz0 hs0
  have HK := Aside0.mk hk
  clear hk
  have HW := Aside0.mk hw
  clear hw
  have hu25 := Try.underlying25
  go_enter Try.func30, Try.ntmps30
  go_wp2_with (first | ((with_reducible refine gate_dst (N := 3) rfl ?_); refine ev_box ?hg (N := 3) ?hd (cs := #[.slice A0_0 s0.now.length c0_0, .slice A0_1 s0.sure.length c0_1, .slice A0_2 s0.last.length c0_2, .slice A0_3 s0.slast.length c0_3, .slice A0_4 s0.floors.length c0_4]) (t := 25) ?hr ?_; (case hd => rfl); (case hg => rfl); (case hr => first | (go_simp; done) | (go_simp; rfl)); intro g3 W1 HG4 BK2 HB3) | ((with_reducible refine gate_dst (N := 6) rfl ?_); refine ev_box ?hg (N := 6) ?hd (cs := #[.slice none 0 0, .slice none 0 0, .slice none 0 0, .slice none 0 0, .slice none 0 0]) (t := 25) ?hr ?_; (case hd => rfl); (case hg => rfl); (case hr => first | (go_simp; done) | (go_simp; rfl)); intro g6 W5 HG8 BK6 HB7) | ((with_reducible refine gate_dst (N := 9) rfl ?_); refine ev_load rfl (N := 9) rfl rfl (g := g3) rfl (cs := #[.slice A0_0 s0.now.length c0_0, .slice A0_1 s0.sure.length c0_1, .slice A0_2 s0.last.length c0_2, .slice A0_3 s0.slast.length c0_3, .slice A0_4 s0.floors.length c0_4]) (Bk.below BK2.out HB7.out) hu25 rfl (by kernel_rfl) ?_))
  refine (spec_StoreOk_q (StC.below HV0.out (below_step HB3.out HB7.out)) HZ0.out HK.out).mono ?_
  rintro e W9 ⟨rfl, hb10⟩
  have HB11 := Aside0.mk hb10
  clear hb10
  go_wp2_with (first | ((with_reducible refine gate_dst (N := 13) rfl ?_); refine ev_load rfl (N := 13) rfl rfl (g := g3) rfl (cs := #[.slice A0_0 s0.now.length c0_0, .slice A0_1 s0.sure.length c0_1, .slice A0_2 s0.last.length c0_2, .slice A0_3 s0.slast.length c0_3, .slice A0_4 s0.floors.length c0_4]) (Bk.below BK2.out (below_step HB7.out HB11.out)) hu25 rfl (by kernel_rfl) ?_))
  refine (spec_l5Copy_c (StC.below HV0.out (below_step (below_step HB3.out HB7.out) HB11.out)) HS0.out).mono ?_
  rintro e W15 ⟨u12, rfl, hr13, hb16⟩
  have HB17 := Aside0.mk hb16
  clear hb16
  have HRs14 := Aside0.mk hr13
  obtain ⟨as14_0, ds14_0, as14_1, ds14_1, as14_2, ds14_2, as14_3, ds14_3, as14_4, ds14_4, rfl, _⟩ := hr13.toC
  clear hr13
  go_wp2_with (first | ((with_reducible refine gate_dst (N := 8) rfl ?_); refine ev_box ?hg (N := 8) ?hd (cs := #[.slice none 0 0, .slice none 0 0, .slice none 0 0, .slice none 0 0, .slice none 0 0]) (t := 25) ?hr ?_; (case hd => rfl); (case hg => rfl); (case hr => first | (go_simp; done) | (go_simp; rfl)); intro g8 W18 HG21 BK19 HB20) | ((with_reducible refine gate_store (t := 25) (p := 8) rfl ?_); refine ev_put (by rfl) rfl rfl (g := g8) rfl (cs := #[.slice as14_0 s0.now.length ds14_0, .slice as14_1 s0.sure.length ds14_1, .slice as14_2 s0.last.length ds14_2, .slice as14_3 s0.slast.length ds14_3, .slice as14_4 s0.floors.length ds14_4]) rfl BK19.out (by kernel_rfl) rfl rfl ?_; intro W22 BK23 HB24 HK25; have HB26 := Aside0.mk (below_at (below_step (below_step (below_step (below_step HB3.out HB7.out) HB11.out) HB17.out) HB20.out) HB24.out (by show w.heap.size ≤ g8; have z0_ := HB3.out.size; have z1_ := HG4.out; have z2_ := BK2.out.lt; have z3_ := HB7.out.size; have z4_ := HG8.out; have z5_ := BK6.out.lt; have z6_ := HB11.out.size; have z7_ := HB17.out.size; have z8_ := HB20.out.size; have z9_ := HG21.out; have z10_ := BK19.out.lt; omega)); have HK27 := Aside0.mk (HK25.out); have F28 := Aside0.mk (StC.below HV0.out HB26.out); have F29 := Aside0.mk (Bk.kept (Bk.below BK2.out (below_step (below_step (below_step HB7.out HB11.out) HB17.out) HB20.out)) HK27.out (fun h_ => (by obtain ⟨h1_, h2_⟩ := h_; have z0_ := HB3.out.size; have z1_ := HG4.out; have z2_ := BK2.out.lt; have z3_ := HB7.out.size; have z4_ := HG8.out; have z5_ := BK6.out.lt; have z6_ := HB11.out.size; have z7_ := HB17.out.size; have z8_ := HB20.out.size; have z9_ := HG21.out; have z10_ := BK19.out.lt; omega))); have F30 := Aside0.mk (Bk.kept (Bk.below BK6.out (below_step (below_step HB11.out HB17.out) HB20.out)) HK27.out (fun h_ => (by obtain ⟨h1_, h2_⟩ := h_; have z0_ := HB3.out.size; have z1_ := HG4.out; have z2_ := BK2.out.lt; have z3_ := HB7.out.size; have z4_ := HG8.out; have z5_ := BK6.out.lt; have z6_ := HB11.out.size; have z7_ := HB17.out.size; have z8_ := HB20.out.size; have z9_ := HG21.out; have z10_ := BK19.out.lt; omega))); have F31 := Aside0.mk (StR.kept (StR.below HRs14.out HB20.out) HK27.out (fun k_ h_ => (by obtain ⟨h1_, h2_⟩ := h_; have z0_ := HB3.out.size; have z1_ := HG4.out; have z2_ := BK2.out.lt; have z3_ := HB7.out.size; have z4_ := HG8.out; have z5_ := BK6.out.lt; have z6_ := HB11.out.size; have z7_ := HB17.out.size; have z8_ := HB20.out.size; have z9_ := HG21.out; have z10_ := BK19.out.lt; omega))); have F32 := Aside0.mk (BK23.out)))
  refine (spec_who_c HW.out).mono ?_
  rintro e W33 ⟨rfl, hb34⟩
  have HB35 := Aside0.mk hb34
  clear hb34
  go_wp2_with (first | ((with_reducible refine gate_dst (N := 26) rfl ?_); refine ev_load rfl (N := 26) rfl rfl (g := g8) rfl (cs := #[.slice as14_0 s0.now.length ds14_0, .slice as14_1 s0.sure.length ds14_1, .slice as14_2 s0.last.length ds14_2, .slice as14_3 s0.slast.length ds14_3, .slice as14_4 s0.floors.length ds14_4]) (Bk.below F32.out HB35.out) hu25 rfl (by kernel_rfl) ?_) | ((with_reducible refine gate_store (t := 25) (p := 6) rfl ?_); refine ev_put (by rfl) rfl rfl (g := g6) rfl (cs := #[.slice as14_0 s0.now.length ds14_0, .slice as14_1 s0.sure.length ds14_1, .slice as14_2 s0.last.length ds14_2, .slice as14_3 s0.slast.length ds14_3, .slice as14_4 s0.floors.length ds14_4]) rfl (Bk.below F30.out HB35.out) (by kernel_rfl) rfl rfl ?_; intro W36 BK37 HB38 HK39; have HB40 := Aside0.mk (below_at (below_step HB26.out HB35.out) HB38.out (by show w.heap.size ≤ g6; have z0_ := HB3.out.size; have z1_ := HG4.out; have z2_ := BK2.out.lt; have z3_ := HB7.out.size; have z4_ := HG8.out; have z5_ := BK6.out.lt; have z6_ := HB11.out.size; have z7_ := HB17.out.size; have z8_ := HB20.out.size; have z9_ := HG21.out; have z10_ := BK19.out.lt; have z11_ := HB26.out.size; have z12_ := HK27.out.1; have z13_ := HB35.out.size; omega)); have HK41 := Aside0.mk (HK39.out); have F42 := Aside0.mk (StC.below HV0.out HB40.out); have F43 := Aside0.mk (Bk.kept (Bk.below F29.out HB35.out) HK41.out (fun h_ => (by obtain ⟨h1_, h2_⟩ := h_; have z0_ := HB3.out.size; have z1_ := HG4.out; have z2_ := BK2.out.lt; have z3_ := HB7.out.size; have z4_ := HG8.out; have z5_ := BK6.out.lt; have z6_ := HB11.out.size; have z7_ := HB17.out.size; have z8_ := HB20.out.size; have z9_ := HG21.out; have z10_ := BK19.out.lt; have z11_ := HB26.out.size; have z12_ := HK27.out.1; have z13_ := HB35.out.size; omega))); have F44 := Aside0.mk (BK37.out); have F45 := Aside0.mk (StR.kept (StR.below F31.out HB35.out) HK41.out (fun k_ h_ => (by obtain ⟨h1_, h2_⟩ := h_; have z0_ := HB3.out.size; have z1_ := HG4.out; have z2_ := BK2.out.lt; have z3_ := HB7.out.size; have z4_ := HG8.out; have z5_ := BK6.out.lt; have z6_ := HB11.out.size; have z7_ := HB17.out.size; have z8_ := HB20.out.size; have z9_ := HG21.out; have z10_ := BK19.out.lt; have z11_ := HB26.out.size; have z12_ := HK27.out.1; have z13_ := HB35.out.size; omega))); have F46 := Aside0.mk (Bk.kept (Bk.below F32.out HB35.out) HK41.out (fun h_ => (by obtain ⟨h1_, h2_⟩ := h_; have z0_ := HB3.out.size; have z1_ := HG4.out; have z2_ := BK2.out.lt; have z3_ := HB7.out.size; have z4_ := HG8.out; have z5_ := BK6.out.lt; have z6_ := HB11.out.size; have z7_ := HB17.out.size; have z8_ := HB20.out.size; have z9_ := HG21.out; have z10_ := BK19.out.lt; have z11_ := HB26.out.size; have z12_ := HK27.out.1; have z13_ := HB35.out.size; omega)))))
  try go_wp2
  refine bodyPost_ret (results_ct rfl _ _ g6 25 #[.slice as14_0 s0.now.length ds14_0, .slice as14_1 s0.sure.length ds14_1, .slice as14_2 s0.last.length ds14_2, .slice as14_3 s0.slast.length ds14_3, .slice as14_4 s0.floors.length ds14_4] (0, 0) _ rfl F44.out hu25 rfl (by kernel_rfl)) rfl ?_
  exact ⟨_, rfl, StR.widen F45.out (by have z0_ := HB3.out.size; have z1_ := HG4.out; have z2_ := BK2.out.lt; have z3_ := HB7.out.size; have z4_ := HG8.out; have z5_ := BK6.out.lt; have z6_ := HB11.out.size; have z7_ := HB17.out.size; have z8_ := HB20.out.size; have z9_ := HG21.out; have z10_ := BK19.out.lt; have z11_ := HB26.out.size; have z12_ := HK27.out.1; have z13_ := HB35.out.size; have z14_ := HB40.out.size; have z15_ := HK41.out.1; omega) (by have z0_ := HB3.out.size; have z1_ := HG4.out; have z2_ := BK2.out.lt; have z3_ := HB7.out.size; have z4_ := HG8.out; have z5_ := BK6.out.lt; have z6_ := HB11.out.size; have z7_ := HB17.out.size; have z8_ := HB20.out.size; have z9_ := HG21.out; have z10_ := BK19.out.lt; have z11_ := HB26.out.size; have z12_ := HK27.out.1; have z13_ := HB35.out.size; have z14_ := HB40.out.size; have z15_ := HK41.out.1; omega), HB40.out⟩
set_option maxHeartbeats 8000000 in
set_option maxRecDepth 100000 in
theorem spec_StoreFence_p2 {w : World} {v0 : Value} {s0 : St} (hv0 : StC w v0 s0) (hz0 : Sized s0) (hs0 : Small s0) (a1 a2 : Int) (hk : stOk s0 = true) (hw : whoOk a1 = true) (h0 : a2 < 0) :
    Calls Try.prog 30 #[v0, .int .i64 a1, .int .i64 a2] w fun e w' => ∃ u, e = .returned (.tuple #[u, .bool false]) ∧ StR w' w.heap.size w'.heap.size u s0 ∧ Below w.heap.size w w' := by
  have HV0 := Aside0.mk hv0
  have HZ0 := Aside0.mk hz0
  obtain ⟨A0_0, c0_0, A0_1, c0_1, A0_2, c0_2, A0_3, c0_3, A0_4, c0_4, rfl, _⟩ := hv0
  have HS0 := Aside0.mk hs0
  clear hz0 hs0
  have HK := Aside0.mk hk
  clear hk
  have HW := Aside0.mk hw
  clear hw
  have hd0 : decide (a2 < 0) = true := decide_eq_true h0
  clear h0
  have hu25 := Try.underlying25
  go_enter Try.func30, Try.ntmps30
  go_wp2_with (first | ((with_reducible refine gate_dst (N := 3) rfl ?_); refine ev_box ?hg (N := 3) ?hd (cs := #[.slice A0_0 s0.now.length c0_0, .slice A0_1 s0.sure.length c0_1, .slice A0_2 s0.last.length c0_2, .slice A0_3 s0.slast.length c0_3, .slice A0_4 s0.floors.length c0_4]) (t := 25) ?hr ?_; (case hd => rfl); (case hg => rfl); (case hr => first | (go_simp; done) | (go_simp; rfl)); intro g3 W1 HG4 BK2 HB3) | ((with_reducible refine gate_dst (N := 6) rfl ?_); refine ev_box ?hg (N := 6) ?hd (cs := #[.slice none 0 0, .slice none 0 0, .slice none 0 0, .slice none 0 0, .slice none 0 0]) (t := 25) ?hr ?_; (case hd => rfl); (case hg => rfl); (case hr => first | (go_simp; done) | (go_simp; rfl)); intro g6 W5 HG8 BK6 HB7) | ((with_reducible refine gate_dst (N := 9) rfl ?_); refine ev_load rfl (N := 9) rfl rfl (g := g3) rfl (cs := #[.slice A0_0 s0.now.length c0_0, .slice A0_1 s0.sure.length c0_1, .slice A0_2 s0.last.length c0_2, .slice A0_3 s0.slast.length c0_3, .slice A0_4 s0.floors.length c0_4]) (Bk.below BK2.out HB7.out) hu25 rfl (by kernel_rfl) ?_))
  refine (spec_StoreOk_q (StC.below HV0.out (below_step HB3.out HB7.out)) HZ0.out HK.out).mono ?_
  rintro e W9 ⟨rfl, hb10⟩
  have HB11 := Aside0.mk hb10
  clear hb10
  go_wp2_with (first | ((with_reducible refine gate_dst (N := 13) rfl ?_); refine ev_load rfl (N := 13) rfl rfl (g := g3) rfl (cs := #[.slice A0_0 s0.now.length c0_0, .slice A0_1 s0.sure.length c0_1, .slice A0_2 s0.last.length c0_2, .slice A0_3 s0.slast.length c0_3, .slice A0_4 s0.floors.length c0_4]) (Bk.below BK2.out (below_step HB7.out HB11.out)) hu25 rfl (by kernel_rfl) ?_))
  refine (spec_l5Copy_c (StC.below HV0.out (below_step (below_step HB3.out HB7.out) HB11.out)) HS0.out).mono ?_
  rintro e W15 ⟨u12, rfl, hr13, hb16⟩
  have HB17 := Aside0.mk hb16
  clear hb16
  have HRs14 := Aside0.mk hr13
  obtain ⟨as14_0, ds14_0, as14_1, ds14_1, as14_2, ds14_2, as14_3, ds14_3, as14_4, ds14_4, rfl, _⟩ := hr13.toC
  clear hr13
  go_wp2_with (first | ((with_reducible refine gate_dst (N := 8) rfl ?_); refine ev_box ?hg (N := 8) ?hd (cs := #[.slice none 0 0, .slice none 0 0, .slice none 0 0, .slice none 0 0, .slice none 0 0]) (t := 25) ?hr ?_; (case hd => rfl); (case hg => rfl); (case hr => first | (go_simp; done) | (go_simp; rfl)); intro g8 W18 HG21 BK19 HB20) | ((with_reducible refine gate_store (t := 25) (p := 8) rfl ?_); refine ev_put (by rfl) rfl rfl (g := g8) rfl (cs := #[.slice as14_0 s0.now.length ds14_0, .slice as14_1 s0.sure.length ds14_1, .slice as14_2 s0.last.length ds14_2, .slice as14_3 s0.slast.length ds14_3, .slice as14_4 s0.floors.length ds14_4]) rfl BK19.out (by kernel_rfl) rfl rfl ?_; intro W22 BK23 HB24 HK25; have HB26 := Aside0.mk (below_at (below_step (below_step (below_step (below_step HB3.out HB7.out) HB11.out) HB17.out) HB20.out) HB24.out (by show w.heap.size ≤ g8; have z0_ := HB3.out.size; have z1_ := HG4.out; have z2_ := BK2.out.lt; have z3_ := HB7.out.size; have z4_ := HG8.out; have z5_ := BK6.out.lt; have z6_ := HB11.out.size; have z7_ := HB17.out.size; have z8_ := HB20.out.size; have z9_ := HG21.out; have z10_ := BK19.out.lt; omega)); have HK27 := Aside0.mk (HK25.out); have F28 := Aside0.mk (StC.below HV0.out HB26.out); have F29 := Aside0.mk (Bk.kept (Bk.below BK2.out (below_step (below_step (below_step HB7.out HB11.out) HB17.out) HB20.out)) HK27.out (fun h_ => (by obtain ⟨h1_, h2_⟩ := h_; have z0_ := HB3.out.size; have z1_ := HG4.out; have z2_ := BK2.out.lt; have z3_ := HB7.out.size; have z4_ := HG8.out; have z5_ := BK6.out.lt; have z6_ := HB11.out.size; have z7_ := HB17.out.size; have z8_ := HB20.out.size; have z9_ := HG21.out; have z10_ := BK19.out.lt; omega))); have F30 := Aside0.mk (Bk.kept (Bk.below BK6.out (below_step (below_step HB11.out HB17.out) HB20.out)) HK27.out (fun h_ => (by obtain ⟨h1_, h2_⟩ := h_; have z0_ := HB3.out.size; have z1_ := HG4.out; have z2_ := BK2.out.lt; have z3_ := HB7.out.size; have z4_ := HG8.out; have z5_ := BK6.out.lt; have z6_ := HB11.out.size; have z7_ := HB17.out.size; have z8_ := HB20.out.size; have z9_ := HG21.out; have z10_ := BK19.out.lt; omega))); have F31 := Aside0.mk (StR.kept (StR.below HRs14.out HB20.out) HK27.out (fun k_ h_ => (by obtain ⟨h1_, h2_⟩ := h_; have z0_ := HB3.out.size; have z1_ := HG4.out; have z2_ := BK2.out.lt; have z3_ := HB7.out.size; have z4_ := HG8.out; have z5_ := BK6.out.lt; have z6_ := HB11.out.size; have z7_ := HB17.out.size; have z8_ := HB20.out.size; have z9_ := HG21.out; have z10_ := BK19.out.lt; omega))); have F32 := Aside0.mk (BK23.out)))
  refine (spec_who_c HW.out).mono ?_
  rintro e W33 ⟨rfl, hb34⟩
  have HB35 := Aside0.mk hb34
  clear hb34
  go_wp2_with (first | ((with_reducible refine gate_dst (N := 26) rfl ?_); refine ev_load rfl (N := 26) rfl rfl (g := g8) rfl (cs := #[.slice as14_0 s0.now.length ds14_0, .slice as14_1 s0.sure.length ds14_1, .slice as14_2 s0.last.length ds14_2, .slice as14_3 s0.slast.length ds14_3, .slice as14_4 s0.floors.length ds14_4]) (Bk.below F32.out HB35.out) hu25 rfl (by kernel_rfl) ?_) | ((with_reducible refine gate_store (t := 25) (p := 6) rfl ?_); refine ev_put (by rfl) rfl rfl (g := g6) rfl (cs := #[.slice as14_0 s0.now.length ds14_0, .slice as14_1 s0.sure.length ds14_1, .slice as14_2 s0.last.length ds14_2, .slice as14_3 s0.slast.length ds14_3, .slice as14_4 s0.floors.length ds14_4]) rfl (Bk.below F30.out HB35.out) (by kernel_rfl) rfl rfl ?_; intro W36 BK37 HB38 HK39; have HB40 := Aside0.mk (below_at (below_step HB26.out HB35.out) HB38.out (by show w.heap.size ≤ g6; have z0_ := HB3.out.size; have z1_ := HG4.out; have z2_ := BK2.out.lt; have z3_ := HB7.out.size; have z4_ := HG8.out; have z5_ := BK6.out.lt; have z6_ := HB11.out.size; have z7_ := HB17.out.size; have z8_ := HB20.out.size; have z9_ := HG21.out; have z10_ := BK19.out.lt; have z11_ := HB26.out.size; have z12_ := HK27.out.1; have z13_ := HB35.out.size; omega)); have HK41 := Aside0.mk (HK39.out); have F42 := Aside0.mk (StC.below HV0.out HB40.out); have F43 := Aside0.mk (Bk.kept (Bk.below F29.out HB35.out) HK41.out (fun h_ => (by obtain ⟨h1_, h2_⟩ := h_; have z0_ := HB3.out.size; have z1_ := HG4.out; have z2_ := BK2.out.lt; have z3_ := HB7.out.size; have z4_ := HG8.out; have z5_ := BK6.out.lt; have z6_ := HB11.out.size; have z7_ := HB17.out.size; have z8_ := HB20.out.size; have z9_ := HG21.out; have z10_ := BK19.out.lt; have z11_ := HB26.out.size; have z12_ := HK27.out.1; have z13_ := HB35.out.size; omega))); have F44 := Aside0.mk (BK37.out); have F45 := Aside0.mk (StR.kept (StR.below F31.out HB35.out) HK41.out (fun k_ h_ => (by obtain ⟨h1_, h2_⟩ := h_; have z0_ := HB3.out.size; have z1_ := HG4.out; have z2_ := BK2.out.lt; have z3_ := HB7.out.size; have z4_ := HG8.out; have z5_ := BK6.out.lt; have z6_ := HB11.out.size; have z7_ := HB17.out.size; have z8_ := HB20.out.size; have z9_ := HG21.out; have z10_ := BK19.out.lt; have z11_ := HB26.out.size; have z12_ := HK27.out.1; have z13_ := HB35.out.size; omega))); have F46 := Aside0.mk (Bk.kept (Bk.below F32.out HB35.out) HK41.out (fun h_ => (by obtain ⟨h1_, h2_⟩ := h_; have z0_ := HB3.out.size; have z1_ := HG4.out; have z2_ := BK2.out.lt; have z3_ := HB7.out.size; have z4_ := HG8.out; have z5_ := BK6.out.lt; have z6_ := HB11.out.size; have z7_ := HB17.out.size; have z8_ := HB20.out.size; have z9_ := HG21.out; have z10_ := BK19.out.lt; have z11_ := HB26.out.size; have z12_ := HK27.out.1; have z13_ := HB35.out.size; omega)))))
  try go_wp2
  refine bodyPost_ret (results_ct rfl _ _ g6 25 #[.slice as14_0 s0.now.length ds14_0, .slice as14_1 s0.sure.length ds14_1, .slice as14_2 s0.last.length ds14_2, .slice as14_3 s0.slast.length ds14_3, .slice as14_4 s0.floors.length ds14_4] (0, 0) _ rfl F44.out hu25 rfl (by kernel_rfl)) rfl ?_
  exact ⟨_, rfl, StR.widen F45.out (by have z0_ := HB3.out.size; have z1_ := HG4.out; have z2_ := BK2.out.lt; have z3_ := HB7.out.size; have z4_ := HG8.out; have z5_ := BK6.out.lt; have z6_ := HB11.out.size; have z7_ := HB17.out.size; have z8_ := HB20.out.size; have z9_ := HG21.out; have z10_ := BK19.out.lt; have z11_ := HB26.out.size; have z12_ := HK27.out.1; have z13_ := HB35.out.size; have z14_ := HB40.out.size; have z15_ := HK41.out.1; omega) (by have z0_ := HB3.out.size; have z1_ := HG4.out; have z2_ := BK2.out.lt; have z3_ := HB7.out.size; have z4_ := HG8.out; have z5_ := BK6.out.lt; have z6_ := HB11.out.size; have z7_ := HB17.out.size; have z8_ := HB20.out.size; have z9_ := HG21.out; have z10_ := BK19.out.lt; have z11_ := HB26.out.size; have z12_ := HK27.out.1; have z13_ := HB35.out.size; have z14_ := HB40.out.size; have z15_ := HK41.out.1; omega), HB40.out⟩
set_option maxHeartbeats 8000000 in
set_option maxRecDepth 100000 in
theorem spec_StoreFence_p3 {w : World} {v0 : Value} {s0 : St} (hv0 : StC w v0 s0) (hz0 : Sized s0) (hs0 : Small s0) (a1 a2 : Int) (hk : stOk s0 = true) (hw : whoOk a1 = true) (h0 : ¬ a2 < 0) (h1 : 100 < a2) :
    Calls Try.prog 30 #[v0, .int .i64 a1, .int .i64 a2] w fun e w' => ∃ u, e = .returned (.tuple #[u, .bool false]) ∧ StR w' w.heap.size w'.heap.size u s0 ∧ Below w.heap.size w w' := by
  have HV0 := Aside0.mk hv0
  have HZ0 := Aside0.mk hz0
  obtain ⟨A0_0, c0_0, A0_1, c0_1, A0_2, c0_2, A0_3, c0_3, A0_4, c0_4, rfl, _⟩ := hv0
  have HS0 := Aside0.mk hs0
  clear hz0 hs0
  have HK := Aside0.mk hk
  clear hk
  have HW := Aside0.mk hw
  clear hw
  have hd0 : decide (a2 < 0) = false := decide_eq_false h0
  clear h0
  have hd1 : decide (100 < a2) = true := decide_eq_true h1
  clear h1
  have hu25 := Try.underlying25
  go_enter Try.func30, Try.ntmps30
  go_wp2_with (first | ((with_reducible refine gate_dst (N := 3) rfl ?_); refine ev_box ?hg (N := 3) ?hd (cs := #[.slice A0_0 s0.now.length c0_0, .slice A0_1 s0.sure.length c0_1, .slice A0_2 s0.last.length c0_2, .slice A0_3 s0.slast.length c0_3, .slice A0_4 s0.floors.length c0_4]) (t := 25) ?hr ?_; (case hd => rfl); (case hg => rfl); (case hr => first | (go_simp; done) | (go_simp; rfl)); intro g3 W1 HG4 BK2 HB3) | ((with_reducible refine gate_dst (N := 6) rfl ?_); refine ev_box ?hg (N := 6) ?hd (cs := #[.slice none 0 0, .slice none 0 0, .slice none 0 0, .slice none 0 0, .slice none 0 0]) (t := 25) ?hr ?_; (case hd => rfl); (case hg => rfl); (case hr => first | (go_simp; done) | (go_simp; rfl)); intro g6 W5 HG8 BK6 HB7) | ((with_reducible refine gate_dst (N := 9) rfl ?_); refine ev_load rfl (N := 9) rfl rfl (g := g3) rfl (cs := #[.slice A0_0 s0.now.length c0_0, .slice A0_1 s0.sure.length c0_1, .slice A0_2 s0.last.length c0_2, .slice A0_3 s0.slast.length c0_3, .slice A0_4 s0.floors.length c0_4]) (Bk.below BK2.out HB7.out) hu25 rfl (by kernel_rfl) ?_))
  refine (spec_StoreOk_q (StC.below HV0.out (below_step HB3.out HB7.out)) HZ0.out HK.out).mono ?_
  rintro e W9 ⟨rfl, hb10⟩
  have HB11 := Aside0.mk hb10
  clear hb10
  go_wp2_with (first | ((with_reducible refine gate_dst (N := 13) rfl ?_); refine ev_load rfl (N := 13) rfl rfl (g := g3) rfl (cs := #[.slice A0_0 s0.now.length c0_0, .slice A0_1 s0.sure.length c0_1, .slice A0_2 s0.last.length c0_2, .slice A0_3 s0.slast.length c0_3, .slice A0_4 s0.floors.length c0_4]) (Bk.below BK2.out (below_step HB7.out HB11.out)) hu25 rfl (by kernel_rfl) ?_))
  refine (spec_l5Copy_c (StC.below HV0.out (below_step (below_step HB3.out HB7.out) HB11.out)) HS0.out).mono ?_
  rintro e W15 ⟨u12, rfl, hr13, hb16⟩
  have HB17 := Aside0.mk hb16
  clear hb16
  have HRs14 := Aside0.mk hr13
  obtain ⟨as14_0, ds14_0, as14_1, ds14_1, as14_2, ds14_2, as14_3, ds14_3, as14_4, ds14_4, rfl, _⟩ := hr13.toC
  clear hr13
  go_wp2_with (first | ((with_reducible refine gate_dst (N := 8) rfl ?_); refine ev_box ?hg (N := 8) ?hd (cs := #[.slice none 0 0, .slice none 0 0, .slice none 0 0, .slice none 0 0, .slice none 0 0]) (t := 25) ?hr ?_; (case hd => rfl); (case hg => rfl); (case hr => first | (go_simp; done) | (go_simp; rfl)); intro g8 W18 HG21 BK19 HB20) | ((with_reducible refine gate_store (t := 25) (p := 8) rfl ?_); refine ev_put (by rfl) rfl rfl (g := g8) rfl (cs := #[.slice as14_0 s0.now.length ds14_0, .slice as14_1 s0.sure.length ds14_1, .slice as14_2 s0.last.length ds14_2, .slice as14_3 s0.slast.length ds14_3, .slice as14_4 s0.floors.length ds14_4]) rfl BK19.out (by kernel_rfl) rfl rfl ?_; intro W22 BK23 HB24 HK25; have HB26 := Aside0.mk (below_at (below_step (below_step (below_step (below_step HB3.out HB7.out) HB11.out) HB17.out) HB20.out) HB24.out (by show w.heap.size ≤ g8; have z0_ := HB3.out.size; have z1_ := HG4.out; have z2_ := BK2.out.lt; have z3_ := HB7.out.size; have z4_ := HG8.out; have z5_ := BK6.out.lt; have z6_ := HB11.out.size; have z7_ := HB17.out.size; have z8_ := HB20.out.size; have z9_ := HG21.out; have z10_ := BK19.out.lt; omega)); have HK27 := Aside0.mk (HK25.out); have F28 := Aside0.mk (StC.below HV0.out HB26.out); have F29 := Aside0.mk (Bk.kept (Bk.below BK2.out (below_step (below_step (below_step HB7.out HB11.out) HB17.out) HB20.out)) HK27.out (fun h_ => (by obtain ⟨h1_, h2_⟩ := h_; have z0_ := HB3.out.size; have z1_ := HG4.out; have z2_ := BK2.out.lt; have z3_ := HB7.out.size; have z4_ := HG8.out; have z5_ := BK6.out.lt; have z6_ := HB11.out.size; have z7_ := HB17.out.size; have z8_ := HB20.out.size; have z9_ := HG21.out; have z10_ := BK19.out.lt; omega))); have F30 := Aside0.mk (Bk.kept (Bk.below BK6.out (below_step (below_step HB11.out HB17.out) HB20.out)) HK27.out (fun h_ => (by obtain ⟨h1_, h2_⟩ := h_; have z0_ := HB3.out.size; have z1_ := HG4.out; have z2_ := BK2.out.lt; have z3_ := HB7.out.size; have z4_ := HG8.out; have z5_ := BK6.out.lt; have z6_ := HB11.out.size; have z7_ := HB17.out.size; have z8_ := HB20.out.size; have z9_ := HG21.out; have z10_ := BK19.out.lt; omega))); have F31 := Aside0.mk (StR.kept (StR.below HRs14.out HB20.out) HK27.out (fun k_ h_ => (by obtain ⟨h1_, h2_⟩ := h_; have z0_ := HB3.out.size; have z1_ := HG4.out; have z2_ := BK2.out.lt; have z3_ := HB7.out.size; have z4_ := HG8.out; have z5_ := BK6.out.lt; have z6_ := HB11.out.size; have z7_ := HB17.out.size; have z8_ := HB20.out.size; have z9_ := HG21.out; have z10_ := BK19.out.lt; omega))); have F32 := Aside0.mk (BK23.out)))
  refine (spec_who_c HW.out).mono ?_
  rintro e W33 ⟨rfl, hb34⟩
  have HB35 := Aside0.mk hb34
  clear hb34
  go_wp2_with (first | ((with_reducible refine gate_dst (N := 26) rfl ?_); refine ev_load rfl (N := 26) rfl rfl (g := g8) rfl (cs := #[.slice as14_0 s0.now.length ds14_0, .slice as14_1 s0.sure.length ds14_1, .slice as14_2 s0.last.length ds14_2, .slice as14_3 s0.slast.length ds14_3, .slice as14_4 s0.floors.length ds14_4]) (Bk.below F32.out HB35.out) hu25 rfl (by kernel_rfl) ?_) | ((with_reducible refine gate_store (t := 25) (p := 6) rfl ?_); refine ev_put (by rfl) rfl rfl (g := g6) rfl (cs := #[.slice as14_0 s0.now.length ds14_0, .slice as14_1 s0.sure.length ds14_1, .slice as14_2 s0.last.length ds14_2, .slice as14_3 s0.slast.length ds14_3, .slice as14_4 s0.floors.length ds14_4]) rfl (Bk.below F30.out HB35.out) (by kernel_rfl) rfl rfl ?_; intro W36 BK37 HB38 HK39; have HB40 := Aside0.mk (below_at (below_step HB26.out HB35.out) HB38.out (by show w.heap.size ≤ g6; have z0_ := HB3.out.size; have z1_ := HG4.out; have z2_ := BK2.out.lt; have z3_ := HB7.out.size; have z4_ := HG8.out; have z5_ := BK6.out.lt; have z6_ := HB11.out.size; have z7_ := HB17.out.size; have z8_ := HB20.out.size; have z9_ := HG21.out; have z10_ := BK19.out.lt; have z11_ := HB26.out.size; have z12_ := HK27.out.1; have z13_ := HB35.out.size; omega)); have HK41 := Aside0.mk (HK39.out); have F42 := Aside0.mk (StC.below HV0.out HB40.out); have F43 := Aside0.mk (Bk.kept (Bk.below F29.out HB35.out) HK41.out (fun h_ => (by obtain ⟨h1_, h2_⟩ := h_; have z0_ := HB3.out.size; have z1_ := HG4.out; have z2_ := BK2.out.lt; have z3_ := HB7.out.size; have z4_ := HG8.out; have z5_ := BK6.out.lt; have z6_ := HB11.out.size; have z7_ := HB17.out.size; have z8_ := HB20.out.size; have z9_ := HG21.out; have z10_ := BK19.out.lt; have z11_ := HB26.out.size; have z12_ := HK27.out.1; have z13_ := HB35.out.size; omega))); have F44 := Aside0.mk (BK37.out); have F45 := Aside0.mk (StR.kept (StR.below F31.out HB35.out) HK41.out (fun k_ h_ => (by obtain ⟨h1_, h2_⟩ := h_; have z0_ := HB3.out.size; have z1_ := HG4.out; have z2_ := BK2.out.lt; have z3_ := HB7.out.size; have z4_ := HG8.out; have z5_ := BK6.out.lt; have z6_ := HB11.out.size; have z7_ := HB17.out.size; have z8_ := HB20.out.size; have z9_ := HG21.out; have z10_ := BK19.out.lt; have z11_ := HB26.out.size; have z12_ := HK27.out.1; have z13_ := HB35.out.size; omega))); have F46 := Aside0.mk (Bk.kept (Bk.below F32.out HB35.out) HK41.out (fun h_ => (by obtain ⟨h1_, h2_⟩ := h_; have z0_ := HB3.out.size; have z1_ := HG4.out; have z2_ := BK2.out.lt; have z3_ := HB7.out.size; have z4_ := HG8.out; have z5_ := BK6.out.lt; have z6_ := HB11.out.size; have z7_ := HB17.out.size; have z8_ := HB20.out.size; have z9_ := HG21.out; have z10_ := BK19.out.lt; have z11_ := HB26.out.size; have z12_ := HK27.out.1; have z13_ := HB35.out.size; omega)))))
  try go_wp2
  refine bodyPost_ret (results_ct rfl _ _ g6 25 #[.slice as14_0 s0.now.length ds14_0, .slice as14_1 s0.sure.length ds14_1, .slice as14_2 s0.last.length ds14_2, .slice as14_3 s0.slast.length ds14_3, .slice as14_4 s0.floors.length ds14_4] (0, 0) _ rfl F44.out hu25 rfl (by kernel_rfl)) rfl ?_
  exact ⟨_, rfl, StR.widen F45.out (by have z0_ := HB3.out.size; have z1_ := HG4.out; have z2_ := BK2.out.lt; have z3_ := HB7.out.size; have z4_ := HG8.out; have z5_ := BK6.out.lt; have z6_ := HB11.out.size; have z7_ := HB17.out.size; have z8_ := HB20.out.size; have z9_ := HG21.out; have z10_ := BK19.out.lt; have z11_ := HB26.out.size; have z12_ := HK27.out.1; have z13_ := HB35.out.size; have z14_ := HB40.out.size; have z15_ := HK41.out.1; omega) (by have z0_ := HB3.out.size; have z1_ := HG4.out; have z2_ := BK2.out.lt; have z3_ := HB7.out.size; have z4_ := HG8.out; have z5_ := BK6.out.lt; have z6_ := HB11.out.size; have z7_ := HB17.out.size; have z8_ := HB20.out.size; have z9_ := HG21.out; have z10_ := BK19.out.lt; have z11_ := HB26.out.size; have z12_ := HK27.out.1; have z13_ := HB35.out.size; have z14_ := HB40.out.size; have z15_ := HK41.out.1; omega), HB40.out⟩
set_option maxHeartbeats 8000000 in
set_option maxRecDepth 100000 in
theorem spec_StoreFence_p4 {w : World} {v0 : Value} {s0 : St} (hv0 : StC w v0 s0) (hz0 : Sized s0) (hs0 : Small s0) (a1 a2 : Int) (hk : stOk s0 = true) (hw : whoOk a1 = true) (h0 : ¬ a2 < 0) (h1 : ¬ 100 < a2) (hi0 : 0 ≤ a1) (hi1 : a1 < s0.floors.length) {m : Int} (hm : (if rd s0.floors a1 < a2 then a2 else rd s0.floors a1) = m) :
    Calls Try.prog 30 #[v0, .int .i64 a1, .int .i64 a2] w fun e w' => ∃ u, e = .returned (.tuple #[u, .bool true]) ∧ StR w' w.heap.size w'.heap.size u { s0 with floors := s0.floors.set a1.toNat m } ∧ Below w.heap.size w w' := by
  have HV0 := Aside0.mk hv0
  have HZ0 := Aside0.mk hz0
  obtain ⟨A0_0, c0_0, A0_1, c0_1, A0_2, c0_2, A0_3, c0_3, A0_4, c0_4, rfl, _⟩ := hv0
  have HS0 := Aside0.mk hs0
  clear hz0 hs0
  have HK := Aside0.mk hk
  clear hk
  have HW := Aside0.mk hw
  clear hw
  have hd0 : decide (a2 < 0) = false := decide_eq_false h0
  clear h0
  have hd1 : decide (100 < a2) = false := decide_eq_false h1
  clear h1
  have hp0 := eq_true hi0
  have hp1 := eq_true hi1
  have HI0 := Aside0.mk hi0
  have HI1 := Aside0.mk hi1
  clear hi0 hi1
  have hm_ : (if rd s0.floors a1 < a2 then a2 else rd s0.floors a1) = m := hm
  have HM := Aside0.mk hm_
  clear hm hm_
  have hu25 := Try.underlying25
  go_enter Try.func30, Try.ntmps30
  go_wp2_with (first | ((with_reducible refine gate_dst (N := 3) rfl ?_); refine ev_box ?hg (N := 3) ?hd (cs := #[.slice A0_0 s0.now.length c0_0, .slice A0_1 s0.sure.length c0_1, .slice A0_2 s0.last.length c0_2, .slice A0_3 s0.slast.length c0_3, .slice A0_4 s0.floors.length c0_4]) (t := 25) ?hr ?_; (case hd => rfl); (case hg => rfl); (case hr => first | (go_simp; done) | (go_simp; rfl)); intro g3 W1 HG4 BK2 HB3) | ((with_reducible refine gate_dst (N := 6) rfl ?_); refine ev_box ?hg (N := 6) ?hd (cs := #[.slice none 0 0, .slice none 0 0, .slice none 0 0, .slice none 0 0, .slice none 0 0]) (t := 25) ?hr ?_; (case hd => rfl); (case hg => rfl); (case hr => first | (go_simp; done) | (go_simp; rfl)); intro g6 W5 HG8 BK6 HB7) | ((with_reducible refine gate_dst (N := 9) rfl ?_); refine ev_load rfl (N := 9) rfl rfl (g := g3) rfl (cs := #[.slice A0_0 s0.now.length c0_0, .slice A0_1 s0.sure.length c0_1, .slice A0_2 s0.last.length c0_2, .slice A0_3 s0.slast.length c0_3, .slice A0_4 s0.floors.length c0_4]) (Bk.below BK2.out HB7.out) hu25 rfl (by kernel_rfl) ?_))
  refine (spec_StoreOk_q (StC.below HV0.out (below_step HB3.out HB7.out)) HZ0.out HK.out).mono ?_
  rintro e W9 ⟨rfl, hb10⟩
  have HB11 := Aside0.mk hb10
  clear hb10
  go_wp2_with (first | ((with_reducible refine gate_dst (N := 13) rfl ?_); refine ev_load rfl (N := 13) rfl rfl (g := g3) rfl (cs := #[.slice A0_0 s0.now.length c0_0, .slice A0_1 s0.sure.length c0_1, .slice A0_2 s0.last.length c0_2, .slice A0_3 s0.slast.length c0_3, .slice A0_4 s0.floors.length c0_4]) (Bk.below BK2.out (below_step HB7.out HB11.out)) hu25 rfl (by kernel_rfl) ?_))
  refine (spec_l5Copy_c (StC.below HV0.out (below_step (below_step HB3.out HB7.out) HB11.out)) HS0.out).mono ?_
  rintro e W15 ⟨u12, rfl, hr13, hb16⟩
  have HB17 := Aside0.mk hb16
  clear hb16
  have HRs14 := Aside0.mk hr13
  obtain ⟨as14_0, ds14_0, as14_1, ds14_1, as14_2, ds14_2, as14_3, ds14_3, as14_4, ds14_4, rfl, _⟩ := hr13.toC
  clear hr13
  obtain ⟨g18, rfl⟩ := StR.floors_form HRs14.out HI0.out HI1.out
  have GL19 := Aside0.mk (StR.floors_cell HRs14.out HI0.out HI1.out).1
  have GH20 := Aside0.mk (StR.floors_cell HRs14.out HI0.out HI1.out).2.1
  go_wp2_with (first | ((with_reducible refine gate_dst (N := 8) rfl ?_); refine ev_box ?hg (N := 8) ?hd (cs := #[.slice none 0 0, .slice none 0 0, .slice none 0 0, .slice none 0 0, .slice none 0 0]) (t := 25) ?hr ?_; (case hd => rfl); (case hg => rfl); (case hr => first | (go_simp; done) | (go_simp; rfl)); intro g8 W21 HG24 BK22 HB23) | ((with_reducible refine gate_store (t := 25) (p := 8) rfl ?_); refine ev_put (by rfl) rfl rfl (g := g8) rfl (cs := #[.slice as14_0 s0.now.length ds14_0, .slice as14_1 s0.sure.length ds14_1, .slice as14_2 s0.last.length ds14_2, .slice as14_3 s0.slast.length ds14_3, .slice (some ⟨g18, 0, none⟩) s0.floors.length ds14_4]) rfl BK22.out (by kernel_rfl) rfl rfl ?_; intro W25 BK26 HB27 HK28; have HB29 := Aside0.mk (below_at (below_step (below_step (below_step (below_step HB3.out HB7.out) HB11.out) HB17.out) HB23.out) HB27.out (by show w.heap.size ≤ g8; have z0_ := HB3.out.size; have z1_ := HG4.out; have z2_ := BK2.out.lt; have z3_ := HB7.out.size; have z4_ := HG8.out; have z5_ := BK6.out.lt; have z6_ := HB11.out.size; have z7_ := HB17.out.size; have z8_ := GL19.out; have z9_ := GH20.out; have z10_ := HB23.out.size; have z11_ := HG24.out; have z12_ := BK22.out.lt; omega)); have HK30 := Aside0.mk (HK28.out); have F31 := Aside0.mk (StC.below HV0.out HB29.out); have F32 := Aside0.mk (Bk.kept (Bk.below BK2.out (below_step (below_step (below_step HB7.out HB11.out) HB17.out) HB23.out)) HK30.out (fun h_ => (by obtain ⟨h1_, h2_⟩ := h_; have z0_ := HB3.out.size; have z1_ := HG4.out; have z2_ := BK2.out.lt; have z3_ := HB7.out.size; have z4_ := HG8.out; have z5_ := BK6.out.lt; have z6_ := HB11.out.size; have z7_ := HB17.out.size; have z8_ := GL19.out; have z9_ := GH20.out; have z10_ := HB23.out.size; have z11_ := HG24.out; have z12_ := BK22.out.lt; omega))); have F33 := Aside0.mk (Bk.kept (Bk.below BK6.out (below_step (below_step HB11.out HB17.out) HB23.out)) HK30.out (fun h_ => (by obtain ⟨h1_, h2_⟩ := h_; have z0_ := HB3.out.size; have z1_ := HG4.out; have z2_ := BK2.out.lt; have z3_ := HB7.out.size; have z4_ := HG8.out; have z5_ := BK6.out.lt; have z6_ := HB11.out.size; have z7_ := HB17.out.size; have z8_ := GL19.out; have z9_ := GH20.out; have z10_ := HB23.out.size; have z11_ := HG24.out; have z12_ := BK22.out.lt; omega))); have F34 := Aside0.mk (StR.kept (StR.below HRs14.out HB23.out) HK30.out (fun k_ h_ => (by obtain ⟨h1_, h2_⟩ := h_; have z0_ := HB3.out.size; have z1_ := HG4.out; have z2_ := BK2.out.lt; have z3_ := HB7.out.size; have z4_ := HG8.out; have z5_ := BK6.out.lt; have z6_ := HB11.out.size; have z7_ := HB17.out.size; have z8_ := GL19.out; have z9_ := GH20.out; have z10_ := HB23.out.size; have z11_ := HG24.out; have z12_ := BK22.out.lt; omega))); have F35 := Aside0.mk (BK26.out)))
  refine (spec_who_c HW.out).mono ?_
  rintro e W36 ⟨rfl, hb37⟩
  have HB38 := Aside0.mk hb37
  clear hb37
  go_wp2_with (fail)
  refine start_ (n := 12) (S := fun w' => Bk w' g8 #[.slice as14_0 s0.now.length ds14_0, .slice as14_1 s0.sure.length ds14_1, .slice as14_2 s0.last.length ds14_2, .slice as14_3 s0.slast.length ds14_3, .slice (some ⟨g18, 0, none⟩) s0.floors.length ds14_4] 25 ∧ w'.cell? ⟨g18, a1.toNat, none⟩ = some (.int .i64 (rd s0.floors a1))) (ds := [11]) #[false, false, false, false, false, false, false, false, false, false, false, false] (by kernel_rfl) rfl rfl ⟨(show Bk W36 g8 #[.slice as14_0 s0.now.length ds14_0, .slice as14_1 s0.sure.length ds14_1, .slice as14_2 s0.last.length ds14_2, .slice as14_3 s0.slast.length ds14_3, .slice (some ⟨g18, 0, none⟩) s0.floors.length ds14_4] 25 from (Bk.below F35.out HB38.out)), (StR.floors_cell (StR.below F34.out HB38.out) HI0.out HI1.out).2.2.1⟩ (fun hHeld => ?_)
  clear hHeld
  refine world_at (w := W36) (below_drew0 _) (fun W39 HB40 => ?_)
  refine pure_ (i := 0) (N := some 27) (v := ?_) (a' := ?_) #[true, false, false, false, false, false, false, false, false, false, false, false] rfl rfl (by kernel_rfl) (fun _ _ _ h => h) (Or.inl ⟨by rfl, ?_⟩) ?_ ?_
  rotate_left
  · intro w'
    go_simp
    with_reducible rfl
  rotate_left
  · simp only [Act.put, List.setIfInBounds_toArray, List.set_cons_zero, List.set_cons_succ, i64_w, i32_w]
    rfl
  refine take_ (i := 1) (N := some 28) (v := .slice (some ⟨g18, 0, none⟩) s0.floors.length ds14_4) (a' := ?_) #[true, true, false, false, false, false, false, false, false, false, false, false] rfl rfl (by kernel_rfl) (fun _ _ _ h => h) (Or.inl ⟨by rfl, ?_⟩) ⟨(Bk.below F35.out (below_step HB38.out HB40.out)), (StR.floors_cell (StR.below F34.out (below_step HB38.out HB40.out)) HI0.out HI1.out).2.2.1⟩ ?_ ?_
  · rintro w' ⟨s0_, s1_⟩
    have hc_ : w'.cell? ⟨g8, 4, none⟩ = some (.slice (some ⟨g18, 0, none⟩) s0.floors.length ds14_4) := (Bk.cell s0_ 4).trans rfl
    first | (go_simp; done) | (go_simp; with_reducible rfl) | (go_simp; rfl)
  rotate_left
  · simp only [Act.put, List.setIfInBounds_toArray, List.set_cons_zero, List.set_cons_succ, i64_w, i32_w]
    rfl
  refine pure_ (i := 2) (N := some 29) (v := ?_) (a' := ?_) #[true, true, true, false, false, false, false, false, false, false, false, false] rfl rfl (by kernel_rfl) (fun _ _ _ h => h) (Or.inl ⟨by rfl, ?_⟩) ?_ ?_
  rotate_left
  · intro w'
    go_simp
    with_reducible rfl
  rotate_left
  · simp only [Act.put, List.setIfInBounds_toArray, List.set_cons_zero, List.set_cons_succ, i64_w, i32_w]
    rfl
  refine pure_ (i := 3) (N := some 30) (v := ?_) (a' := ?_) #[true, true, true, true, false, false, false, false, false, false, false, false] rfl rfl (by kernel_rfl) (fun _ _ _ h => h) (Or.inl ⟨by rfl, ?_⟩) ?_ ?_
  rotate_left
  · intro w'
    go_simp
    with_reducible rfl
  rotate_left
  · simp only [Act.put, List.setIfInBounds_toArray, List.set_cons_zero, List.set_cons_succ, i64_w, i32_w]
    rfl
  refine take_ (i := 4) (N := some 31) (v := .slice (some ⟨g18, 0, none⟩) s0.floors.length ds14_4) (a' := ?_) #[true, true, true, true, true, false, false, false, false, false, false, false] rfl rfl (by kernel_rfl) (fun _ _ _ h => h) (Or.inl ⟨by rfl, ?_⟩) ⟨(Bk.below F35.out (below_step HB38.out HB40.out)), (StR.floors_cell (StR.below F34.out (below_step HB38.out HB40.out)) HI0.out HI1.out).2.2.1⟩ ?_ ?_
  · rintro w' ⟨s0_, s1_⟩
    have hc_ : w'.cell? ⟨g8, 4, none⟩ = some (.slice (some ⟨g18, 0, none⟩) s0.floors.length ds14_4) := (Bk.cell s0_ 4).trans rfl
    first | (go_simp; done) | (go_simp; with_reducible rfl) | (go_simp; rfl)
  rotate_left
  · simp only [Act.put, List.setIfInBounds_toArray, List.set_cons_zero, List.set_cons_succ, i64_w, i32_w]
    rfl
  refine pure_ (i := 5) (N := some 32) (v := ?_) (a' := ?_) #[true, true, true, true, true, true, false, false, false, false, false, false] rfl rfl (by kernel_rfl) (fun _ _ _ h => h) (Or.inl ⟨by rfl, ?_⟩) ?_ ?_
  rotate_left
  · intro w'
    go_simp
    with_reducible rfl
  rotate_left
  · simp only [Act.put, List.setIfInBounds_toArray, List.set_cons_zero, List.set_cons_succ, i64_w, i32_w]
    rfl
  refine pure_ (i := 6) (N := some 33) (v := ?_) (a' := ?_) #[true, true, true, true, true, true, true, false, false, false, false, false] rfl rfl (by kernel_rfl) (fun _ _ _ h => h) (Or.inl ⟨by rfl, ?_⟩) ?_ ?_
  rotate_left
  · intro w'
    go_simp
    with_reducible rfl
  rotate_left
  · simp only [Act.put, List.setIfInBounds_toArray, List.set_cons_zero, List.set_cons_succ, i64_w, i32_w]
    rfl
  refine take_ (i := 7) (N := some 34) (v := .int .i64 (rd s0.floors a1)) (a' := ?_) #[true, true, true, true, true, true, true, true, false, false, false, false] rfl rfl (by kernel_rfl) (fun _ _ _ h => h) (Or.inl ⟨by rfl, ?_⟩) ⟨(Bk.below F35.out (below_step HB38.out HB40.out)), (StR.floors_cell (StR.below F34.out (below_step HB38.out HB40.out)) HI0.out HI1.out).2.2.1⟩ ?_ ?_
  · rintro w' ⟨s0_, s1_⟩
    first | (go_simp; done) | (go_simp; with_reducible rfl) | (go_simp; rfl)
  rotate_left
  · simp only [Act.put, List.setIfInBounds_toArray, List.set_cons_zero, List.set_cons_succ, i64_w, i32_w]
    rfl
  refine pure_ (i := 8) (N := some 35) (v := ?_) (a' := ?_) #[true, true, true, true, true, true, true, true, true, false, false, false] rfl rfl (by kernel_rfl) (fun _ _ _ h => h) (Or.inl ⟨by rfl, ?_⟩) ?_ ?_
  rotate_left
  · intro w'
    go_simp
    with_reducible rfl
  rotate_left
  · simp only [Act.put, List.setIfInBounds_toArray, List.set_cons_zero, List.set_cons_succ, i64_w, i32_w]
    rfl
  refine one_ (i := 9) (N := some 36) #[true, true, true, true, true, true, true, true, true, true, false, false] rfl rfl (by kernel_rfl) (by decide) (fun K hK => ?_)
  refine goes_ Try.func67 (by kernel_rfl) rfl #[.int .i64 (rd s0.floors a1), .int .i64 a2] (by rfl) rfl rfl (by (try simp only [List.map_toArray, List.map_cons, List.map_nil]); first | done | rfl) ?_
  refine (spec_l1Max_c (rd s0.floors a1) a2 HM.out).mono ?_
  rintro e W41 ⟨rfl, hb42⟩
  have HB43 := Aside0.mk hb42
  clear hb42
  refine ⟨_, rfl, ?_⟩
  refine hK.out _ _ ⟨(Bk.below F35.out (below_step (below_step HB38.out HB40.out) HB43.out)), (StR.floors_cell (StR.below F34.out (below_step (below_step HB38.out HB40.out) HB43.out)) HI0.out HI1.out).2.2.1⟩ (fun hHeld => ?_)
  clear hHeld hK K
  refine norm_ (a' := ?_) ?_ ?_
  rotate_left
  · show Act.put _ (some 36) _ = _
    simp only [Act.put, List.setIfInBounds_toArray, List.set_cons_zero, List.set_cons_succ, i64_w, i32_w]
    rfl
  refine pure_ (i := 10) (N := some 37) (v := ?_) (a' := ?_) #[true, true, true, true, true, true, true, true, true, true, true, false] rfl rfl (by kernel_rfl) (fun _ _ _ h => h) (Or.inl ⟨by rfl, ?_⟩) ?_ ?_
  rotate_left
  · intro w'
    go_simp
    with_reducible rfl
  rotate_left
  · simp only [Act.put, List.setIfInBounds_toArray, List.set_cons_zero, List.set_cons_succ, i64_w, i32_w]
    rfl
  refine last_ (i := 11) (N := none) #[true, true, true, true, true, true, true, true, true, true, true, true] rfl rfl (by kernel_rfl) (by decide) (fun K hK => ?_)
  refine skip_ (w1 := W41.setCell ⟨g18, a1.toNat, none⟩ (.int .i64 m)) (by rfl) rfl ?_ ?_
  · have hc_ := (StR.floors_cell (StR.below F34.out (below_step (below_step HB38.out HB40.out) HB43.out)) HI0.out HI1.out).2.2.1
    have hf_ := (StR.floors_cell (StR.below F34.out (below_step (below_step HB38.out HB40.out) HB43.out)) HI0.out HI1.out).2.2.2.1
    first | (go_simp; done) | (go_simp; rfl)
  refine hK.out _ _ ?_
  clear hK K
  refine done_ (by kernel_rfl) ?_
  refine set_event (fun W44 e45 => ?_)
  have HB46 := Aside0.mk (below_at (below_step HB29.out (below_step (below_step HB38.out HB40.out) HB43.out)) (below_setcell e45) (by show w.heap.size ≤ g18; have z0_ := HB3.out.size; have z1_ := HG4.out; have z2_ := BK2.out.lt; have z3_ := HB7.out.size; have z4_ := HG8.out; have z5_ := BK6.out.lt; have z6_ := HB11.out.size; have z7_ := HB17.out.size; have z8_ := GL19.out; have z9_ := GH20.out; have z10_ := HB23.out.size; have z11_ := HG24.out; have z12_ := BK22.out.lt; have z13_ := HB29.out.size; have z14_ := HK30.out.1; have z15_ := HB38.out.size; have z16_ := HB40.out.size; have z17_ := HB43.out.size; omega)); have HK47 := Aside0.mk (kept_set e45); have F48 := Aside0.mk (StC.below HV0.out HB46.out); have F49 := Aside0.mk (Bk.kept (Bk.below F32.out (below_step (below_step HB38.out HB40.out) HB43.out)) HK47.out (fun h_ => (by obtain ⟨h1_, h2_⟩ := h_; have z0_ := HB3.out.size; have z1_ := HG4.out; have z2_ := BK2.out.lt; have z3_ := HB7.out.size; have z4_ := HG8.out; have z5_ := BK6.out.lt; have z6_ := HB11.out.size; have z7_ := HB17.out.size; have z8_ := GL19.out; have z9_ := GH20.out; have z10_ := HB23.out.size; have z11_ := HG24.out; have z12_ := BK22.out.lt; have z13_ := HB29.out.size; have z14_ := HK30.out.1; have z15_ := HB38.out.size; have z16_ := HB40.out.size; have z17_ := HB43.out.size; omega))); have F50 := Aside0.mk (Bk.kept (Bk.below F33.out (below_step (below_step HB38.out HB40.out) HB43.out)) HK47.out (fun h_ => (by obtain ⟨h1_, h2_⟩ := h_; have z0_ := HB3.out.size; have z1_ := HG4.out; have z2_ := BK2.out.lt; have z3_ := HB7.out.size; have z4_ := HG8.out; have z5_ := BK6.out.lt; have z6_ := HB11.out.size; have z7_ := HB17.out.size; have z8_ := GL19.out; have z9_ := GH20.out; have z10_ := HB23.out.size; have z11_ := HG24.out; have z12_ := BK22.out.lt; have z13_ := HB29.out.size; have z14_ := HK30.out.1; have z15_ := HB38.out.size; have z16_ := HB40.out.size; have z17_ := HB43.out.size; omega))); have F51 := Aside0.mk ((StR.floors_cell (StR.below F34.out (below_step (below_step HB38.out HB40.out) HB43.out)) HI0.out HI1.out).2.2.2.2 (m) _ e45); have F52 := Aside0.mk (Bk.kept (Bk.below F35.out (below_step (below_step HB38.out HB40.out) HB43.out)) HK47.out (fun h_ => (by obtain ⟨h1_, h2_⟩ := h_; have z0_ := HB3.out.size; have z1_ := HG4.out; have z2_ := BK2.out.lt; have z3_ := HB7.out.size; have z4_ := HG8.out; have z5_ := BK6.out.lt; have z6_ := HB11.out.size; have z7_ := HB17.out.size; have z8_ := GL19.out; have z9_ := GH20.out; have z10_ := HB23.out.size; have z11_ := HG24.out; have z12_ := BK22.out.lt; have z13_ := HB29.out.size; have z14_ := HK30.out.1; have z15_ := HB38.out.size; have z16_ := HB40.out.size; have z17_ := HB43.out.size; omega))); clear e45
  go_wp2_with (first | ((with_reducible refine gate_dst (N := 38) rfl ?_); refine ev_load rfl (N := 38) rfl rfl (g := g8) rfl (cs := #[.slice as14_0 s0.now.length ds14_0, .slice as14_1 s0.sure.length ds14_1, .slice as14_2 s0.last.length ds14_2, .slice as14_3 s0.slast.length ds14_3, .slice (some ⟨g18, 0, none⟩) s0.floors.length ds14_4]) F52.out hu25 rfl (by kernel_rfl) ?_) | ((with_reducible refine gate_store (t := 25) (p := 6) rfl ?_); refine ev_put (by rfl) rfl rfl (g := g6) rfl (cs := #[.slice as14_0 s0.now.length ds14_0, .slice as14_1 s0.sure.length ds14_1, .slice as14_2 s0.last.length ds14_2, .slice as14_3 s0.slast.length ds14_3, .slice (some ⟨g18, 0, none⟩) s0.floors.length ds14_4]) rfl F50.out (by kernel_rfl) rfl rfl ?_; intro W53 BK54 HB55 HK56; have HB57 := Aside0.mk (below_at HB46.out HB55.out (by show w.heap.size ≤ g6; have z0_ := HB3.out.size; have z1_ := HG4.out; have z2_ := BK2.out.lt; have z3_ := HB7.out.size; have z4_ := HG8.out; have z5_ := BK6.out.lt; have z6_ := HB11.out.size; have z7_ := HB17.out.size; have z8_ := GL19.out; have z9_ := GH20.out; have z10_ := HB23.out.size; have z11_ := HG24.out; have z12_ := BK22.out.lt; have z13_ := HB29.out.size; have z14_ := HK30.out.1; have z15_ := HB38.out.size; have z16_ := HB40.out.size; have z17_ := HB43.out.size; have z18_ := HB46.out.size; have z19_ := HK47.out.1; omega)); have HK58 := Aside0.mk (HK56.out); have F59 := Aside0.mk (StC.below HV0.out HB57.out); have F60 := Aside0.mk (Bk.kept F49.out HK58.out (fun h_ => (by obtain ⟨h1_, h2_⟩ := h_; have z0_ := HB3.out.size; have z1_ := HG4.out; have z2_ := BK2.out.lt; have z3_ := HB7.out.size; have z4_ := HG8.out; have z5_ := BK6.out.lt; have z6_ := HB11.out.size; have z7_ := HB17.out.size; have z8_ := GL19.out; have z9_ := GH20.out; have z10_ := HB23.out.size; have z11_ := HG24.out; have z12_ := BK22.out.lt; have z13_ := HB29.out.size; have z14_ := HK30.out.1; have z15_ := HB38.out.size; have z16_ := HB40.out.size; have z17_ := HB43.out.size; have z18_ := HB46.out.size; have z19_ := HK47.out.1; omega))); have F61 := Aside0.mk (BK54.out); have F62 := Aside0.mk (StR.kept F51.out HK58.out (fun k_ h_ => (by obtain ⟨h1_, h2_⟩ := h_; have z0_ := HB3.out.size; have z1_ := HG4.out; have z2_ := BK2.out.lt; have z3_ := HB7.out.size; have z4_ := HG8.out; have z5_ := BK6.out.lt; have z6_ := HB11.out.size; have z7_ := HB17.out.size; have z8_ := GL19.out; have z9_ := GH20.out; have z10_ := HB23.out.size; have z11_ := HG24.out; have z12_ := BK22.out.lt; have z13_ := HB29.out.size; have z14_ := HK30.out.1; have z15_ := HB38.out.size; have z16_ := HB40.out.size; have z17_ := HB43.out.size; have z18_ := HB46.out.size; have z19_ := HK47.out.1; omega))); have F63 := Aside0.mk (Bk.kept F52.out HK58.out (fun h_ => (by obtain ⟨h1_, h2_⟩ := h_; have z0_ := HB3.out.size; have z1_ := HG4.out; have z2_ := BK2.out.lt; have z3_ := HB7.out.size; have z4_ := HG8.out; have z5_ := BK6.out.lt; have z6_ := HB11.out.size; have z7_ := HB17.out.size; have z8_ := GL19.out; have z9_ := GH20.out; have z10_ := HB23.out.size; have z11_ := HG24.out; have z12_ := BK22.out.lt; have z13_ := HB29.out.size; have z14_ := HK30.out.1; have z15_ := HB38.out.size; have z16_ := HB40.out.size; have z17_ := HB43.out.size; have z18_ := HB46.out.size; have z19_ := HK47.out.1; omega)))))
  try go_wp2
  refine bodyPost_ret (results_ct rfl _ _ g6 25 #[.slice as14_0 s0.now.length ds14_0, .slice as14_1 s0.sure.length ds14_1, .slice as14_2 s0.last.length ds14_2, .slice as14_3 s0.slast.length ds14_3, .slice (some ⟨g18, 0, none⟩) s0.floors.length ds14_4] (0, 0) _ rfl F61.out hu25 rfl (by kernel_rfl)) rfl ?_
  exact ⟨_, rfl, StR.widen F62.out (by have z0_ := HB3.out.size; have z1_ := HG4.out; have z2_ := BK2.out.lt; have z3_ := HB7.out.size; have z4_ := HG8.out; have z5_ := BK6.out.lt; have z6_ := HB11.out.size; have z7_ := HB17.out.size; have z8_ := GL19.out; have z9_ := GH20.out; have z10_ := HB23.out.size; have z11_ := HG24.out; have z12_ := BK22.out.lt; have z13_ := HB29.out.size; have z14_ := HK30.out.1; have z15_ := HB38.out.size; have z16_ := HB40.out.size; have z17_ := HB43.out.size; have z18_ := HB46.out.size; have z19_ := HK47.out.1; have z20_ := HB57.out.size; have z21_ := HK58.out.1; omega) (by have z0_ := HB3.out.size; have z1_ := HG4.out; have z2_ := BK2.out.lt; have z3_ := HB7.out.size; have z4_ := HG8.out; have z5_ := BK6.out.lt; have z6_ := HB11.out.size; have z7_ := HB17.out.size; have z8_ := GL19.out; have z9_ := GH20.out; have z10_ := HB23.out.size; have z11_ := HG24.out; have z12_ := BK22.out.lt; have z13_ := HB29.out.size; have z14_ := HK30.out.1; have z15_ := HB38.out.size; have z16_ := HB40.out.size; have z17_ := HB43.out.size; have z18_ := HB46.out.size; have z19_ := HK47.out.1; have z20_ := HB57.out.size; have z21_ := HK58.out.1; omega), HB57.out⟩
end Go.Proofs.Ytolmblfffnnabaa.P
namespace Go.Proofs.Ytolmblfffnnabaa.P
open Go.RowKit Go.Proofs.YtolmblfffnnabaaW.PrintWords Go.Proofs.YtolmblfffnnabaaW.PrintLast Go.Proofs.YtolmblfffnnabaaW.PrintMore
def fenceSt (s : St) (who ep : Int) : St × Bool :=
  if stOk s = true then (if whoOk who = true then (if ep < 0 then (s, false) else if 100 < ep then (s, false) else ({ s with floors := s.floors.set who.toNat (if rd s.floors who < ep then ep else rd s.floors who) }, true)) else (s, false)) else (stNone, false)
theorem fenceSt_small {s t : St} {who ep : Int} {q : Bool} (ht : fenceSt s who ep = (t, q)) (h : Small s) : Small t := by
  have : Small (fenceSt s who ep).1 := by
    unfold fenceSt
    split
    · split
      · split
        · exact h
        · split
          · exact h
          · exact ⟨h.1, h.2.1, h.2.2.1, h.2.2.2.1, by simpa using h.2.2.2.2⟩
      · exact h
    · exact stNone_small
  rw [ht] at this
  exact this
theorem whoOk_iff {a : Int} : whoOk a = true ↔ 0 ≤ a ∧ a < 3 := by simp [whoOk]
theorem stOk_lens {s : St} (h : stOk s = true) : s.now.length = 3 ∧ s.sure.length = 3 ∧ s.last.length = 3 ∧ s.slast.length = 3 ∧ s.floors.length = 3 := by
  simp only [stOk, textsOk, lensOk, Bool.and_eq_true, decide_eq_true_eq] at h
  omega
section
variable {w : World} {v : Value} {s t : St} {who ep : Int} {q : Bool}
theorem impl_StoreFence_c (hv : StC w v s) (hz : Sized s) (hs : Small s) (ht : fenceSt s who ep = (t, q)) :
    Calls Try.prog 31 #[v, .int .i64 who, .int .i64 ep] w fun e w' => ∃ u, e = .returned (.tuple #[u, .bool q]) ∧ StR w' w.heap.size w'.heap.size u t ∧ Below w.heap.size w w' := by
  unfold fenceSt at ht
  split at ht
  case isTrue hk =>
    split at ht
    case isTrue hw =>
      obtain ⟨h3, h4⟩ := whoOk_iff.1 hw
      have hl := stOk_lens hk
      split at ht
      · cases ht
        exact impl_StoreFence_p2 hv hz hs who ep hk hw (by assumption)
      · split at ht
        · cases ht
          exact impl_StoreFence_p3 hv hz hs who ep hk hw (by assumption) (by assumption)
        · cases ht
          exact impl_StoreFence_p4 hv hz hs who ep hk hw (by assumption) (by assumption) h3 (by omega) rfl
    case isFalse hw =>
      cases ht
      exact impl_StoreFence_p1 hv hz hs who ep hk (by simpa using hw)
  case isFalse hk =>
    cases ht
    exact impl_StoreFence_p0 hv hz hs who ep (by simpa using hk)
theorem spec_StoreFence_c (hv : StC w v s) (hz : Sized s) (hs : Small s) (ht : fenceSt s who ep = (t, q)) :
    Calls Try.prog 30 #[v, .int .i64 who, .int .i64 ep] w fun e w' => ∃ u, e = .returned (.tuple #[u, .bool q]) ∧ StR w' w.heap.size w'.heap.size u t ∧ Below w.heap.size w w' := by
  unfold fenceSt at ht
  split at ht
  case isTrue hk =>
    split at ht
    case isTrue hw =>
      obtain ⟨h3, h4⟩ := whoOk_iff.1 hw
      have hl := stOk_lens hk
      split at ht
      · cases ht
        exact spec_StoreFence_p2 hv hz hs who ep hk hw (by assumption)
      · split at ht
        · cases ht
          exact spec_StoreFence_p3 hv hz hs who ep hk hw (by assumption) (by assumption)
        · cases ht
          exact spec_StoreFence_p4 hv hz hs who ep hk hw (by assumption) (by assumption) h3 (by omega) rfl
    case isFalse hw =>
      cases ht
      exact spec_StoreFence_p1 hv hz hs who ep hk (by simpa using hw)
  case isFalse hk =>
    cases ht
    exact spec_StoreFence_p0 hv hz hs who ep (by simpa using hk)
end
end Go.Proofs.Ytolmblfffnnabaa.P
namespace Go.Proofs.Ytolmblfffnnabaa.P
open Go.RowKit Go.Proofs.YtolmblfffnnabaaW.PrintWords Go.Proofs.YtolmblfffnnabaaW.PrintLast Go.Proofs.YtolmblfffnnabaaW.PrintMore
attribute [local go_sem] max2_int min2_int max_two min_two max_three min_three max_four min_four   
set_option linter.unusedVariables false
set_option linter.unusedSimpArgs false
def laws_markIntS.l0 : Nat → List Int → Int → Int → Option (Int × List Int)
  | 0, _, _, _ => none
  | k + 1, x0, x1, x5 => if x5 < (x0.length : Int) then (if 0 ≤ x5 then (laws_markIntS.l0 k (x0.set (x5 : Int).toNat x1) (wrap64 (x1 + 1)) (wrap64 (x5 + 1))) else (none)) else (some (x1, x0))
def laws_markIntS.f (k : Nat) (l0 : List Int) (a1 : Int) : Option (Int × List Int) := laws_markIntS.l0 k l0 a1 0
theorem laws_markIntS.mono_l : ∀ k, (∀ y0 y1 y2, LeO (laws_markIntS.l0 k y0 y1 y2) (laws_markIntS.l0 (k + 1) y0 y1 y2))
  | 0 => fun _ _ _ r h => by simp [laws_markIntS.l0] at h
  | k + 1 => by
    have ih0 := laws_markIntS.mono_l k
    · intro y0 y1 y2
      unfold laws_markIntS.l0
      repeat' first
      | (with_reducible exact ih0 _ _ _)
      | (with_reducible exact LeO.refl _)
      | (with_reducible exact LeO.none _)
      | (with_reducible refine LeO.ite ?_ ?_)
      | (with_reducible refine LeO.bind ?_ (fun _ => ?_))
      | exact ih0 _ _ _
      | exact LeO.none _
      | refine LeO.ite ?_ ?_
      | refine LeO.bind ?_ (fun _ => ?_)
theorem laws_markIntS.mono : ∀ a0 a1 k, LeO (laws_markIntS.f k a0 a1) (laws_markIntS.f (k + 1) a0 a1) := by
  intro a0 a1 k
  have ih0 := laws_markIntS.mono_l k
  unfold laws_markIntS.f
  repeat' first
      | (with_reducible exact ih0 _ _ _)
      | (with_reducible exact LeO.refl _)
      | (with_reducible exact LeO.none _)
      | (with_reducible refine LeO.ite ?_ ?_)
      | (with_reducible refine LeO.bind ?_ (fun _ => ?_))
      | exact ih0 _ _ _
      | exact LeO.none _
      | refine LeO.ite ?_ ?_
      | refine LeO.bind ?_ (fun _ => ?_)
set_option maxHeartbeats 8000000 in
set_option maxRecDepth 100000 in
theorem laws_markIntS.calls (k : Nat) (P0_ : Nat → Prop) (u9000_ : Value) (l0 : List Int) (a1 : Int) (r1 : Int) (r2 : List Int) (w0 w : World) (hB : Below w0.heap.size w0 w) (ho0 : Kd.R (Kd.int .i64) 3 w w0.heap.size P0_ u9000_ l0) (h : laws_markIntS.f k l0 a1 = some (r1, r2)) :
    Calls Try.prog 39 #[u9000_, .int .i64 a1] w fun e w' => e = .returned (.int .i64 r1) ∧ Kd.R (Kd.int .i64) 3 w' w0.heap.size (fun k_ => (P0_ k_ ∨ w.heap.size ≤ k_)) u9000_ r2 ∧ Below w0.heap.size w0 w' ∧ Kept w w' (fun k_ => P0_ k_) := by
  have HO0 := Aside0.mk (show Kd.R (Kd.int .i64) 3 w w0.heap.size (fun k_ => (P0_ k_ ∨ w.heap.size ≤ k_)) u9000_ l0 from Kd.R_mono ho0 (fun k_ hk => (.inl hk)))
  have HK := Aside0.mk (Kept.refl w (fun k_ => P0_ k_))
  have HW0 := Aside0.mk hB.size
  have HB := Aside0.mk hB
  clear hB
  have H : (laws_markIntS.l0 k l0 a1 0) = some (r1, r2) := h
  clear h
  have H' := Aside0.mk H
  clear H
  go_enter Try.func39, Try.ntmps39
  go_wp2
  go_loopg [1, 5] k (fun kq v1 v5 w' => ∃ (x0_1 : List Int) (x1_1 : Int) (x5_1 : Int), v1 = .int .i64 x1_1 ∧ v5 = .int .i64 x5_1 ∧ Aside0 (laws_markIntS.l0 kq x0_1 x1_1 x5_1 = some (r1, r2)) ∧ Aside0 (kq ≤ k) ∧ Aside0 (Kd.R (Kd.int .i64) 3 w' w0.heap.size (fun k_ => (P0_ k_ ∨ w.heap.size ≤ k_)) u9000_ x0_1) ∧ Aside0 (Kept w w' (fun k_ => P0_ k_)) ∧ Aside0 (Below w0.heap.size w0 w'))
  case atStart => exact ⟨(l0), (a1), (0), (by first | rfl | (simp; done) | (simp [*]; done)), (by first | rfl | (simp; done) | (simp [*]; done)), H', ⟨Nat.le_refl _⟩, ⟨by (with_reducible repeat (first | apply Kd.R_alloc | apply Kd.R_drewN | apply Kd.R_drew)); exact HO0.out⟩, ⟨by repeat (first | (with_reducible first | exact HK.out | apply Kept.alloc | apply Kept.drewN | apply Kept.drew) | exact HK.out)⟩, ⟨by repeat (first | (with_reducible first | exact HB.out | apply below_alloc | apply pw_below_drewN | apply below_drew1) | exact HB.out)⟩⟩
  case round =>
    clear H'
    try clear p2
    obtain ⟨x0_1, x1_1, x5_1, rfl, rfl, HA, HK1, HO_0, HK, HB⟩ := hrel
    cases gk with
    | zero => exact absurd HA.out (by simp [laws_markIntS.l0])
    | succ k1 =>
      have H := HA.out
      clear HA
      simp only [laws_markIntS.l0] at H
      by_cases c3 : x5_1 < (x0_1.length : Int)
      · rw [if_pos c3] at H
        have c3b0 : decide (x5_1 < (x0_1.length : Int)) = true := decide_eq_true c3
        clear c3
        by_cases c4 : 0 ≤ x5_1
        · rw [if_pos c4] at H
          have c4b0 : decide (0 ≤ x5_1) = true := decide_eq_true c4
          clear c4
          obtain ⟨y144, hy144⟩ : ∃ y_ : List Int, y_ = (x0_1.set (x5_1 : Int).toNat x1_1) := ⟨_, rfl⟩
          replace H : (laws_markIntS.l0 k1 y144 (wrap64 (x1_1 + 1)) (wrap64 (x5_1 + 1))) = some (r1, r2) := by first | (rw [hy144]; with_reducible exact H) | (have H2_ := (Option.bind_some _ _).symm.trans H; rw [hy144]; with_reducible exact H2_) | (have H2_ := (Option.bind_some _ _).symm.trans H; with_reducible exact H2_) | with_reducible exact H | (rw [hy144]; exact H) | exact H
          have Ny144 := Aside0.mk hy144
          clear hy144
          have H' := Aside0.mk H
          clear H
          obtain ⟨Ao6, co6, eo6⟩ := Kd.R_slice HO_0.out
          subst eo6
          have p5 : 0 ≤ (x5_1 : Int) := of_decide_eq_true (by first | (with_reducible assumption) | assumption)
          have q5 : (x5_1 : Int) < ((x0_1.length : Int) : Int) := of_decide_eq_true (by first | (with_reducible assumption) | assumption)
          obtain ⟨go5, co5, eo5, gb5, gl5, cl5, HG5⟩ := Kd.R_form HO_0.out (by omega)
          (first | cases eo5 | (injection eo5 with ea_ en_ ec_; (first | subst ea_ | (injection ea_ with ea_; subst ea_)); subst ec_; clear en_))
          have GB5 := Aside0.mk gb5
          have GG5 := Aside0.mk HG5
          clear gb5 gl5 HG5
          have HMgo5 := Aside0.mk (show (P0_ go5 ∨ w.heap.size ≤ go5) from (HO_0.out.1 _ rfl))
          obtain ⟨hx5_0, hf5_0⟩ := Kd.R_celln 0 HO_0.out (x5_1 : Int) p5 q5
          replace p5 := eq_true p5
          replace q5 := eq_true q5
          have HP7 := Kd.R_putg HO_0.out (x5_1 : Int) x1_1
          go_wp2_with (first | ((with_reducible refine gate_store (t := 3) (p := 15) rfl ?_); refine store_event (t := 3) (p := 15) (v := ?vo_w8) (w1 := (wr.setCell ⟨go5, (x5_1 : Int).toNat, none⟩ (.int .i64 x1_1))) ?hg ?ho ?hn ?hr ?_; (case ho => rfl); (case hg => rfl); (case hn => rfl); (case hr => first | (go_simp; done) | (go_simp; rfl)); intro w8 hw; have hg : wr.grownBy w8 (some go5) := (by rw [hw]; exact HP7.2); have hp_ : Kd.R (Kd.int .i64) 3 w8 w0.heap.size (fun k_ => (P0_ k_ ∨ w.heap.size ≤ k_)) (.slice (some ⟨go5, 0, none⟩) x0_1.length co6) y144 := (by rw [hw, Ny144.out]; exact HP7.1); clear HP7; have n0_ := Aside0.mk (hp_); have n1_ := Aside0.mk ((by rw [hw]; exact below_set (HB.out) GB5.out : Below w0.heap.size w0 w8)); have n2_ := Aside0.mk (Kept.of_grown (S := (fun k_ => P0_ k_)) hg (by repeat (first | (with_reducible first | exact HK.out | apply Kept.alloc | apply Kept.drewN | apply Kept.drew) | exact HK.out)) (fun k_ e_ => (HO_0.out.1 k_ e_))); clear HO_0; clear HB; clear HK; have HO_0 := n0_; have HB := n1_; have HK := n2_; clear n0_ n1_ n2_; clear hg hw hp_))
          go_roundg k1
          case measure => have := HK1.out; omega
          case rel => exact ⟨(y144), (wrap64 (x1_1 + 1)), (wrap64 (x5_1 + 1)), (by first | rfl | (simp; done) | (simp [*]; done)), (by first | rfl | (simp; done) | (simp [*]; done)), H', ⟨by have := HK1.out; omega⟩, ⟨by (with_reducible repeat (first | apply Kd.R_alloc | apply Kd.R_drewN | apply Kd.R_drew)); exact HO_0.out⟩, ⟨by repeat (first | (with_reducible first | exact HK.out | apply Kept.alloc | apply Kept.drewN | apply Kept.drew) | exact HK.out)⟩, ⟨by repeat (first | (with_reducible first | exact HB.out | apply below_alloc | apply pw_below_drewN | apply below_drew1) | exact HB.out)⟩⟩
        · rw [if_neg c4] at H
          exact absurd H (by simp)
      · rw [if_neg c3] at H
        have c3b0 : decide (x5_1 < (x0_1.length : Int)) = false := decide_eq_false c3
        clear c3
        simp only [Option.some.injEq, Prod.mk.injEq] at H
        obtain ⟨rfl, rfl⟩ := H
        obtain ⟨Ao9, co9, eo9⟩ := Kd.R_slice HO_0.out
        subst eo9
        go_wp2
        go_ret
        exact ⟨by first | rfl | (simp [errW_none, errW_some] <;> rfl) | (simp [*, errW_none, errW_some] <;> rfl), by (with_reducible repeat (first | apply Kd.R_alloc | apply Kd.R_drewN | apply Kd.R_drew)); exact HO_0.out, by repeat (first | (with_reducible first | exact HB.out | apply below_alloc | apply pw_below_drewN | apply below_drew1) | exact HB.out), by repeat (first | (with_reducible first | exact HK.out | apply Kept.alloc | apply Kept.drewN | apply Kept.drew) | exact HK.out)⟩
end Go.Proofs.Ytolmblfffnnabaa.P
namespace Go.Proofs.Ytolmblfffnnabaa.P
open Go.RowKit Go.Proofs.YtolmblfffnnabaaW.PrintWords Go.Proofs.YtolmblfffnnabaaW.PrintLast Go.Proofs.YtolmblfffnnabaaW.PrintMore
attribute [local go_sem] max2_int min2_int max_two min_two max_three min_three max_four min_four   
set_option linter.unusedVariables false
set_option linter.unusedSimpArgs false
def laws_heldIntS.l0 : Nat → List Int → Int → Int → Option (Int)
  | 0, _, _, _ => none
  | k + 1, x0, x1, x5 => if x5 < (x0.length : Int) then (if 0 ≤ x5 then (if (rd x0 x5) = x1 then (laws_heldIntS.l0 k x0 (wrap64 (x1 + 1)) (wrap64 (x5 + 1))) else (some (-1))) else (none)) else (some x1)
def laws_heldIntS.f (k : Nat) (l0 : List Int) (a1 : Int) : Option (Int) := laws_heldIntS.l0 k l0 a1 0
theorem laws_heldIntS.mono_l : ∀ k, (∀ y0 y1 y2, LeO (laws_heldIntS.l0 k y0 y1 y2) (laws_heldIntS.l0 (k + 1) y0 y1 y2))
  | 0 => fun _ _ _ r h => by simp [laws_heldIntS.l0] at h
  | k + 1 => by
    have ih0 := laws_heldIntS.mono_l k
    · intro y0 y1 y2
      unfold laws_heldIntS.l0
      repeat' first
      | (with_reducible exact ih0 _ _ _)
      | (with_reducible exact LeO.refl _)
      | (with_reducible exact LeO.none _)
      | (with_reducible refine LeO.ite ?_ ?_)
      | (with_reducible refine LeO.bind ?_ (fun _ => ?_))
      | exact ih0 _ _ _
      | exact LeO.none _
      | refine LeO.ite ?_ ?_
      | refine LeO.bind ?_ (fun _ => ?_)
theorem laws_heldIntS.mono : ∀ a0 a1 k, LeO (laws_heldIntS.f k a0 a1) (laws_heldIntS.f (k + 1) a0 a1) := by
  intro a0 a1 k
  have ih0 := laws_heldIntS.mono_l k
  unfold laws_heldIntS.f
  repeat' first
      | (with_reducible exact ih0 _ _ _)
      | (with_reducible exact LeO.refl _)
      | (with_reducible exact LeO.none _)
      | (with_reducible refine LeO.ite ?_ ?_)
      | (with_reducible refine LeO.bind ?_ (fun _ => ?_))
      | exact ih0 _ _ _
      | exact LeO.none _
      | refine LeO.ite ?_ ?_
      | refine LeO.bind ?_ (fun _ => ?_)
set_option maxHeartbeats 8000000 in
set_option maxRecDepth 100000 in
theorem laws_heldIntS.calls (k : Nat) (A0 : Option Addr) (c0 : Nat) (l0 : List Int) (a1 : Int) (r : Int) (w : World) (hr0 : Kd.C (Kd.int .i64) w A0 l0.length l0) (hc0 : l0.length ≤ c0) (h : laws_heldIntS.f k l0 a1 = some r) :
    Calls Try.prog 40 #[.slice A0 l0.length c0, .int .i64 a1] w fun e w' => e = .returned (.int .i64 r) ∧ Drawn0 w w' := by
  have HR0 := Aside0.mk hr0
  have HC0 := Aside0.mk hc0
  clear hr0 hc0
  have H : (laws_heldIntS.l0 k l0 a1 0) = some r := h
  clear h
  have H' := Aside0.mk H
  clear H
  go_enter Try.func40, Try.ntmps40
  go_wp2
  go_loopg [1, 5] k (fun kq v1 v5 w' => ∃ (x1_1 : Int) (x5_1 : Int), v1 = .int .i64 x1_1 ∧ v5 = .int .i64 x5_1 ∧ Aside0 (laws_heldIntS.l0 kq l0 x1_1 x5_1 = some r) ∧ Aside0 (kq ≤ k) ∧ Drawn0 w w')
  case atStart => exact ⟨(a1), (0), (by first | rfl | (simp; done) | (simp [*]; done)), (by first | rfl | (simp; done) | (simp [*]; done)), H', ⟨Nat.le_refl _⟩, by repeat (first | exact Drawn0.refl _ | apply Drawn0.step)⟩
  case round =>
    clear H'
    try clear p2
    obtain ⟨x1_1, x5_1, rfl, rfl, HA, HK1, ⟨m1, rfl⟩⟩ := hrel
    cases gk with
    | zero => exact absurd HA.out (by simp [laws_heldIntS.l0])
    | succ k1 =>
      have H := HA.out
      clear HA
      simp only [laws_heldIntS.l0] at H
      by_cases c3 : x5_1 < (l0.length : Int)
      · rw [if_pos c3] at H
        have c3b0 : decide (x5_1 < (l0.length : Int)) = true := decide_eq_true c3
        clear c3
        by_cases c4 : 0 ≤ x5_1
        · rw [if_pos c4] at H
          have c4b0 : decide (0 ≤ x5_1) = true := decide_eq_true c4
          clear c4
          by_cases c5 : (rd l0 x5_1) = x1_1
          · rw [if_pos c5] at H
            have c5b0 : ((rd l0 x5_1) == x1_1) = true := beq_iff_eq.mpr c5
            have c5b1 : ((rd l0 x5_1) != x1_1) = false := bne_eq_false_iff_eq.mpr c5
            clear c5
            have H' := Aside0.mk H
            clear H
            have p161 : 0 ≤ (x5_1 : Int) := of_decide_eq_true (by first | (with_reducible assumption) | assumption)
            have q161 : x5_1 < (l0.length : Int) := of_decide_eq_true (by first | (with_reducible assumption) | assumption)
            obtain ⟨ad161, e161, hx161_0⟩ := Kd.at_int HR0.out x5_1 p161 q161
            cases e161
            replace p161 := eq_true p161
            replace q161 := eq_true q161
            go_wp2
            go_roundg k1
            case measure => have := HK1.out; omega
            case rel => exact ⟨(wrap64 (x1_1 + 1)), (wrap64 (x5_1 + 1)), (by first | rfl | (simp; done) | (simp [*]; done)), (by first | rfl | (simp; done) | (simp [*]; done)), H', ⟨by have := HK1.out; omega⟩, by repeat (first | exact Drawn0.refl _ | apply Drawn0.step)⟩
          · rw [if_neg c5] at H
            have c5b0 : ((rd l0 x5_1) == x1_1) = false := beq_eq_false_iff_ne.mpr c5
            have c5b1 : ((rd l0 x5_1) != x1_1) = true := bne_iff_ne.mpr c5
            obtain rfl := Option.some.inj H
            have p161 : 0 ≤ (x5_1 : Int) := of_decide_eq_true (by first | (with_reducible assumption) | assumption)
            have q161 : x5_1 < (l0.length : Int) := of_decide_eq_true (by first | (with_reducible assumption) | assumption)
            obtain ⟨ad161, e161, hx161_0⟩ := Kd.at_int HR0.out x5_1 p161 q161
            cases e161
            replace p161 := eq_true p161
            replace q161 := eq_true q161
            go_wp2
            go_ret
            exact ⟨by first | rfl | (simp; done) | (simp [*]; done), by repeat (first | exact Drawn0.refl _ | apply Drawn0.step)⟩
        · rw [if_neg c4] at H
          exact absurd H (by simp)
      · rw [if_neg c3] at H
        have c3b0 : decide (x5_1 < (l0.length : Int)) = false := decide_eq_false c3
        clear c3
        obtain rfl := Option.some.inj H
        go_wp2
        go_ret
        exact ⟨by first | rfl | (simp; done) | (simp [*]; done), by repeat (first | exact Drawn0.refl _ | apply Drawn0.step)⟩
end Go.Proofs.Ytolmblfffnnabaa.P
namespace Go.Proofs.Ytolmblfffnnabaa.P
open Go.RowKit Go.Proofs.YtolmblfffnnabaaW.PrintWords Go.Proofs.YtolmblfffnnabaaW.PrintLast Go.Proofs.YtolmblfffnnabaaW.PrintMore
attribute [local go_sem] max2_int min2_int max_two min_two max_three min_three max_four min_four   
set_option linter.unusedVariables false
set_option linter.unusedSimpArgs false
def laws_markText.l0 : Nat → Int → ByteArray → Option (ByteArray)
  | 0, _, _ => none
  | k + 1, x0, x3 => if x0 > 0 then ((some (([(wrap64 (48 + (Int.tmod x0 10))) % 256] : List Int) : List Int)).bind fun y145 => (if (strOfNums y145).size + x3.size ≤ 9223372036854775807 then (laws_markText.l0 k (wrap64 (Int.tdiv x0 10)) ((strOfNums y145) ++ x3)) else (none))) else (if 1 + x3.size ≤ 9223372036854775807 then (some ((⟨#[109]⟩ : ByteArray) ++ x3)) else (none))
def laws_markText.f (k : Nat) (a0 : Int) : Option (ByteArray) := if a0 ≤ 0 then (some (⟨#[109, 48]⟩ : ByteArray)) else (laws_markText.l0 k a0 (⟨#[]⟩ : ByteArray))
theorem laws_markText.mono_l : ∀ k, (∀ y0 y1, LeO (laws_markText.l0 k y0 y1) (laws_markText.l0 (k + 1) y0 y1))
  | 0 => fun _ _ r h => by simp [laws_markText.l0] at h
  | k + 1 => by
    have ih0 := laws_markText.mono_l k
    · intro y0 y1
      unfold laws_markText.l0
      repeat' first
      | (with_reducible exact ih0 _ _)
      | (with_reducible exact LeO.refl _)
      | (with_reducible exact LeO.none _)
      | (with_reducible refine LeO.ite ?_ ?_)
      | (with_reducible refine LeO.bind ?_ (fun _ => ?_))
      | exact ih0 _ _
      | exact LeO.none _
      | refine LeO.ite ?_ ?_
      | refine LeO.bind ?_ (fun _ => ?_)
theorem laws_markText.mono : ∀ a0 k, LeO (laws_markText.f k a0) (laws_markText.f (k + 1) a0) := by
  intro a0 k
  have ih0 := laws_markText.mono_l k
  unfold laws_markText.f
  repeat' first
      | (with_reducible exact ih0 _ _)
      | (with_reducible exact LeO.refl _)
      | (with_reducible exact LeO.none _)
      | (with_reducible refine LeO.ite ?_ ?_)
      | (with_reducible refine LeO.bind ?_ (fun _ => ?_))
      | exact ih0 _ _
      | exact LeO.none _
      | refine LeO.ite ?_ ?_
      | refine LeO.bind ?_ (fun _ => ?_)
set_option maxHeartbeats 8000000 in
set_option maxRecDepth 100000 in
theorem laws_markText.calls (k : Nat) (a0 : Int) (r : ByteArray) (w : World) (h : laws_markText.f k a0 = some r) :
    Calls Try.prog 71 #[.int .i64 a0] w fun e w' => e = .returned (.string r) ∧ Below w.heap.size w w' := by
  have HB := Aside0.mk (Below.refl w.heap.size w)
  have H : (if a0 ≤ 0 then (some (⟨#[109, 48]⟩ : ByteArray)) else (laws_markText.l0 k a0 (⟨#[]⟩ : ByteArray))) = some r := h
  clear h
  by_cases c2 : a0 ≤ 0
  · rw [if_pos c2] at H
    have c2b0 : decide (a0 ≤ 0) = true := decide_eq_true c2
    clear c2
    obtain rfl := Option.some.inj H
    go_enter Try.func71, Try.ntmps71
    go_wp2
    go_ret
    exact ⟨by first | rfl | (simp [errW_none, errW_some] <;> rfl) | (simp [*, errW_none, errW_some] <;> rfl), by repeat (first | (with_reducible first | exact HB.out | apply below_alloc | apply pw_below_drewN | apply below_drew1) | exact HB.out)⟩
  · rw [if_neg c2] at H
    have c2b0 : decide (a0 ≤ 0) = false := decide_eq_false c2
    clear c2
    have H' := Aside0.mk H
    clear H
    go_enter Try.func71, Try.ntmps71
    go_wp2
    go_loopg [0, 3] k (fun kq v0 v3 w' => ∃ (x0_1 : Int) (x3_1 : ByteArray), v0 = .int .i64 x0_1 ∧ v3 = .string x3_1 ∧ Aside0 (laws_markText.l0 kq x0_1 x3_1 = some r) ∧ Aside0 (kq ≤ k) ∧ Aside0 (Below w.heap.size w w'))
    case atStart => exact ⟨(a0), ((⟨#[]⟩ : ByteArray)), (by first | rfl | (simp; done) | (simp [*]; done)), (by first | rfl | (simp; done) | (simp [*]; done)), H', ⟨Nat.le_refl _⟩, ⟨by repeat (first | (with_reducible first | exact HB.out | apply below_alloc | apply pw_below_drewN | apply below_drew1) | exact HB.out)⟩⟩
    case round =>
      clear H'
      try clear c2
      try clear c2b0
      try clear p2
      obtain ⟨x0_1, x3_1, rfl, rfl, HA, HK1, HB⟩ := hrel
      cases gk with
      | zero => exact absurd HA.out (by simp [laws_markText.l0])
      | succ k1 =>
        have H := HA.out
        clear HA
        simp only [laws_markText.l0] at H
        by_cases c3 : x0_1 > 0
        · rw [if_pos c3] at H
          have c3b0 : decide (0 < x0_1) = true := decide_eq_true c3
          clear c3
          obtain ⟨y145, hy145⟩ : ∃ y_ : List Int, y_ = (([(wrap64 (48 + (Int.tmod x0_1 10))) % 256] : List Int)) := ⟨_, rfl⟩
          replace H : (if (strOfNums y145).size + x3_1.size ≤ 9223372036854775807 then (laws_markText.l0 k1 (wrap64 (Int.tdiv x0_1 10)) ((strOfNums y145) ++ x3_1)) else (none)) = some r := by first | (rw [hy145]; with_reducible exact H) | (have H2_ := (Option.bind_some _ _).symm.trans H; rw [hy145]; with_reducible exact H2_) | (have H2_ := (Option.bind_some _ _).symm.trans H; with_reducible exact H2_) | with_reducible exact H | (rw [hy145]; exact H) | exact H
          have Ny145 := Aside0.mk hy145
          clear hy145
          by_cases c4 : (strOfNums y145).size + x3_1.size ≤ 9223372036854775807
          · rw [if_pos c4] at H
            have c4b0 := eq_true c4
            have c4b1 : decide ((strOfNums y145).size + x3_1.size ≤ 9223372036854775807) = true := decide_eq_true c4
            try have c4b2 : (9223372036854775807 < (strOfNums y145).size + x3_1.size) = False := eq_false (Nat.not_lt.2 c4)
            have H' := Aside0.mk H
            clear H
            go_wp2_with (first | ((with_reducible refine gate_dst (N := 12) rfl ?_); refine Kd.R_lit (Kd.int .u8) _ 5 ?hg (N := 12) ?hd (xs := ([(wrap64 (48 + (Int.tmod x0_1 10))) % 256] : List Int)) (inner := [.int .u8 ((wrap64 (48 + (Int.tmod x0_1 10))) % 256)]) (ok := fun _ => True) (okp := fun _ => True) ?hr ?hp (fun _ hk => hk) trivial (Below.refl _ _) (Nat.le_refl _) (by simp) ?_; (case hd => rfl); (case hg => rfl); (case hr => first | (go_simp; done) | (go_simp; rfl)); (case hp => exact (Reps.one (show Kd.M (Kd.int .u8) _ _ _ ((wrap64 (48 + (Int.tmod x0_1 10))) % 256) [.int .u8 ((wrap64 (48 + (Int.tmod x0_1 10))) % 256)] from rfl) (Reps.none _ _))); intro v146 w5 ho6 hb hg_ hnew_; clear hg_ hnew_; (first | rw [← Ny145.out] at ho6 | (simp only [Int.reduceToNat] at ho6; rw [← Ny145.out] at ho6)); have n0_ := Aside0.mk (Kd.R_lower ho6 (below_size (by repeat (first | (with_reducible first | exact HB.out | apply below_alloc | apply pw_below_drewN | apply below_drew1) | exact HB.out)))); have n1_ := Aside0.mk (below_step (by repeat (first | (with_reducible first | exact HB.out | apply below_alloc | apply pw_below_drewN | apply below_drew1) | exact HB.out)) hb); clear HB; have HO147 := n0_; have HB := n1_; clear n0_ n1_; clear hb ho6; have hcv7 := own_string (P := Try.prog) Try.underlying81 Try.underlying5 Try.underlying9 (Kd.own_of_R HO147.out)))
            go_roundg k1
            case measure => have := HK1.out; omega
            case rel => exact ⟨(wrap64 (Int.tdiv x0_1 10)), ((strOfNums y145) ++ x3_1), (by first | rfl | (simp; done) | (simp [*]; done)), (by first | rfl | (simp; done) | (simp [*]; done)), H', ⟨by have := HK1.out; omega⟩, ⟨by repeat (first | (with_reducible first | exact HB.out | apply below_alloc | apply pw_below_drewN | apply below_drew1) | exact HB.out)⟩⟩
          · rw [if_neg c4] at H
            exact absurd H (by simp)
        · rw [if_neg c3] at H
          have c3b0 : decide (0 < x0_1) = false := decide_eq_false c3
          clear c3
          by_cases c8 : 1 + x3_1.size ≤ 9223372036854775807
          · rw [if_pos c8] at H
            have c8b0 := eq_true c8
            have c8b1 : decide (1 + x3_1.size ≤ 9223372036854775807) = true := decide_eq_true c8
            try have c8b2 : (9223372036854775807 < 1 + x3_1.size) = False := eq_false (Nat.not_lt.2 c8)
            obtain rfl := Option.some.inj H
            go_wp2
            go_ret
            exact ⟨by first | rfl | (simp [errW_none, errW_some] <;> rfl) | (simp [*, errW_none, errW_some] <;> rfl), by repeat (first | (with_reducible first | exact HB.out | apply below_alloc | apply pw_below_drewN | apply below_drew1) | exact HB.out)⟩
          · rw [if_neg c8] at H
            exact absurd H (by simp)
end Go.Proofs.Ytolmblfffnnabaa.P
namespace Go.Proofs.Ytolmblfffnnabaa.P
open Go.RowKit Go.Proofs.YtolmblfffnnabaaW.PrintWords Go.Proofs.YtolmblfffnnabaaW.PrintLast Go.Proofs.YtolmblfffnnabaaW.PrintMore
attribute [local go_sem] max2_int min2_int max_two min_two max_three min_three max_four min_four   
set_option linter.unusedVariables false
set_option linter.unusedSimpArgs false
def laws_markStringS.l0 : Nat → List ByteArray → Int → Int → Option (Int × List ByteArray)
  | 0, _, _, _ => none
  | k + 1, x0, x1, x5 => if x5 < (x0.length : Int) then ((laws_markText.f k x1).bind fun t148 => (if 0 ≤ x5 then (laws_markStringS.l0 k (x0.set (x5 : Int).toNat t148) (wrap64 (x1 + 1)) (wrap64 (x5 + 1))) else (none))) else (some (x1, x0))
def laws_markStringS.f (k : Nat) (l0 : List ByteArray) (a1 : Int) : Option (Int × List ByteArray) := laws_markStringS.l0 k l0 a1 0
theorem laws_markStringS.mono_l : ∀ k, (∀ y0 y1 y2, LeO (laws_markStringS.l0 k y0 y1 y2) (laws_markStringS.l0 (k + 1) y0 y1 y2))
  | 0 => fun _ _ _ r h => by simp [laws_markStringS.l0] at h
  | k + 1 => by
    have ih0 := laws_markStringS.mono_l k
    · intro y0 y1 y2
      unfold laws_markStringS.l0
      repeat' first
      | (with_reducible exact ih0 _ _ _)
      | (with_reducible exact laws_markText.mono _ _)
      | (with_reducible exact LeO.refl _)
      | (with_reducible exact LeO.none _)
      | (with_reducible refine LeO.ite ?_ ?_)
      | (with_reducible refine LeO.bind ?_ (fun _ => ?_))
      | exact ih0 _ _ _
      | exact laws_markText.mono _ _
      | exact LeO.none _
      | refine LeO.ite ?_ ?_
      | refine LeO.bind ?_ (fun _ => ?_)
theorem laws_markStringS.mono : ∀ a0 a1 k, LeO (laws_markStringS.f k a0 a1) (laws_markStringS.f (k + 1) a0 a1) := by
  intro a0 a1 k
  have ih0 := laws_markStringS.mono_l k
  unfold laws_markStringS.f
  repeat' first
      | (with_reducible exact ih0 _ _ _)
      | (with_reducible exact laws_markText.mono _ _)
      | (with_reducible exact LeO.refl _)
      | (with_reducible exact LeO.none _)
      | (with_reducible refine LeO.ite ?_ ?_)
      | (with_reducible refine LeO.bind ?_ (fun _ => ?_))
      | exact ih0 _ _ _
      | exact laws_markText.mono _ _
      | exact LeO.none _
      | refine LeO.ite ?_ ?_
      | refine LeO.bind ?_ (fun _ => ?_)
set_option maxHeartbeats 8000000 in
set_option maxRecDepth 100000 in
theorem laws_markStringS.calls (k : Nat) (P0_ : Nat → Prop) (u9000_ : Value) (l0 : List ByteArray) (a1 : Int) (r1 : Int) (r2 : List ByteArray) (w0 w : World) (hB : Below w0.heap.size w0 w) (ho0 : Kd.R Kd.string 9 w w0.heap.size P0_ u9000_ l0) (h : laws_markStringS.f k l0 a1 = some (r1, r2)) :
    Calls Try.prog 46 #[u9000_, .int .i64 a1] w fun e w' => e = .returned (.int .i64 r1) ∧ Kd.R Kd.string 9 w' w0.heap.size (fun k_ => (P0_ k_ ∨ w.heap.size ≤ k_)) u9000_ r2 ∧ Below w0.heap.size w0 w' ∧ Kept w w' (fun k_ => P0_ k_) := by
  have HO0 := Aside0.mk (show Kd.R Kd.string 9 w w0.heap.size (fun k_ => (P0_ k_ ∨ w.heap.size ≤ k_)) u9000_ l0 from Kd.R_mono ho0 (fun k_ hk => (.inl hk)))
  have HK := Aside0.mk (Kept.refl w (fun k_ => P0_ k_))
  have HW0 := Aside0.mk hB.size
  have HB := Aside0.mk hB
  clear hB
  have H : (laws_markStringS.l0 k l0 a1 0) = some (r1, r2) := h
  clear h
  have H' := Aside0.mk H
  clear H
  go_enter Try.func46, Try.ntmps46
  go_wp2
  go_loopg [1, 5] k (fun kq v1 v5 w' => ∃ (x0_1 : List ByteArray) (x1_1 : Int) (x5_1 : Int), v1 = .int .i64 x1_1 ∧ v5 = .int .i64 x5_1 ∧ Aside0 (laws_markStringS.l0 kq x0_1 x1_1 x5_1 = some (r1, r2)) ∧ Aside0 (kq ≤ k) ∧ Aside0 (Kd.R Kd.string 9 w' w0.heap.size (fun k_ => (P0_ k_ ∨ w.heap.size ≤ k_)) u9000_ x0_1) ∧ Aside0 (Kept w w' (fun k_ => P0_ k_)) ∧ Aside0 (Below w0.heap.size w0 w'))
  case atStart => exact ⟨(l0), (a1), (0), (by first | rfl | (simp; done) | (simp [*]; done)), (by first | rfl | (simp; done) | (simp [*]; done)), H', ⟨Nat.le_refl _⟩, ⟨by (with_reducible repeat (first | apply Kd.R_alloc | apply Kd.R_drewN | apply Kd.R_drew)); exact HO0.out⟩, ⟨by repeat (first | (with_reducible first | exact HK.out | apply Kept.alloc | apply Kept.drewN | apply Kept.drew) | exact HK.out)⟩, ⟨by repeat (first | (with_reducible first | exact HB.out | apply below_alloc | apply pw_below_drewN | apply below_drew1) | exact HB.out)⟩⟩
  case round =>
    clear H'
    try clear p2
    obtain ⟨x0_1, x1_1, x5_1, rfl, rfl, HA, HK1, HO_0, HK, HB⟩ := hrel
    cases gk with
    | zero => exact absurd HA.out (by simp [laws_markStringS.l0])
    | succ k1 =>
      have H := HA.out
      clear HA
      simp only [laws_markStringS.l0] at H
      by_cases c3 : x5_1 < (x0_1.length : Int)
      · rw [if_pos c3] at H
        have c3b0 : decide (x5_1 < (x0_1.length : Int)) = true := decide_eq_true c3
        clear c3
        replace H := Option.bind_eq_some_iff.mp H
        obtain ⟨t148, A40, H⟩ := H
        replace H : (if 0 ≤ x5_1 then (laws_markStringS.l0 k1 (x0_1.set (x5_1 : Int).toNat t148) (wrap64 (x1_1 + 1)) (wrap64 (x5_1 + 1))) else (none)) = some (r1, r2) := H
        have A4 := Aside0.mk A40
        clear A40
        by_cases c5 : 0 ≤ x5_1
        · rw [if_pos c5] at H
          have c5b0 : decide (0 ≤ x5_1) = true := decide_eq_true c5
          clear c5
          obtain ⟨y149, hy149⟩ : ∃ y_ : List ByteArray, y_ = (x0_1.set (x5_1 : Int).toNat t148) := ⟨_, rfl⟩
          replace H : (laws_markStringS.l0 k1 y149 (wrap64 (x1_1 + 1)) (wrap64 (x5_1 + 1))) = some (r1, r2) := by first | (rw [hy149]; with_reducible exact H) | (have H2_ := (Option.bind_some _ _).symm.trans H; rw [hy149]; with_reducible exact H2_) | (have H2_ := (Option.bind_some _ _).symm.trans H; with_reducible exact H2_) | with_reducible exact H | (rw [hy149]; exact H) | exact H
          have Ny149 := Aside0.mk hy149
          clear hy149
          have H' := Aside0.mk H
          clear H
          obtain ⟨Ao7, co7, eo7⟩ := Kd.R_slice HO_0.out
          subst eo7
          go_wp2_with (first | ((with_reducible refine gate_callee (f := 71) rfl ?_); refine goesL_ (some 15) rfl rfl Try.func71 (by kernel_rfl) rfl #[.int .i64 x1_1] rfl (by (try simp only [List.map_toArray, List.map_cons, List.map_nil]); first | done | rfl | (simp only [List.length_drop, List.length_take]; rfl)) ?_; (with_reducible refine (laws_markText.calls k1 x1_1 t148 _ A4.out).mono ?_); rintro e w8 ⟨rfl, hb⟩; refine ⟨_, rfl, ?_⟩; have n0_ := Aside0.mk (Kd.R_below (by (with_reducible repeat (first | apply Kd.R_alloc | apply Kd.R_drewN | apply Kd.R_drew)); exact HO_0.out) hb); have n1_ := Aside0.mk (Kept.below (S := (fun k_ => P0_ k_)) (by repeat (first | (with_reducible first | exact HK.out | apply Kept.alloc | apply Kept.drewN | apply Kept.drew) | exact HK.out)) hb); have n2_ := Aside0.mk (below_step (by repeat (first | (with_reducible first | exact HB.out | apply below_alloc | apply pw_below_drewN | apply below_drew1) | exact HB.out)) hb); clear HO_0; clear HK; clear HB; have HO_0 := n0_; have HK := n1_; have HB := n2_; clear n0_ n1_ n2_; (try clear hb); (try clear hb2); (try clear hk); (try clear hi); have p6 : 0 ≤ (x5_1 : Int) := of_decide_eq_true (by first | (with_reducible assumption) | assumption); have q6 : (x5_1 : Int) < ((x0_1.length : Int) : Int) := of_decide_eq_true (by first | (with_reducible assumption) | assumption); obtain ⟨go6, co6, eo6, gb6, gl6, cl6, HG6⟩ := Kd.R_form HO_0.out (by omega); (first | cases eo6 | (injection eo6 with ea_ en_ ec_; (first | subst ea_ | (injection ea_ with ea_; subst ea_)); subst ec_; clear en_)); have GB6 := Aside0.mk gb6; have GG6 := Aside0.mk HG6; clear gb6 gl6 HG6; have HMgo6 := Aside0.mk (show (P0_ go6 ∨ w.heap.size ≤ go6) from (HO_0.out.1 _ rfl)); obtain ⟨hx6_0, hf6_0⟩ := Kd.R_celln (⟨#[]⟩ : ByteArray) HO_0.out (x5_1 : Int) p6 q6; replace p6 := eq_true p6; replace q6 := eq_true q6; obtain ⟨hy9_, hz9_⟩ := Kd.R_celln (⟨#[]⟩ : ByteArray) HO_0.out (x5_1 : Int) (of_decide_eq_true (by first | (with_reducible assumption) | assumption)) (of_decide_eq_true (by first | (with_reducible assumption) | assumption)); have HP9 := Kd.R_putg HO_0.out (x5_1 : Int) t148) | ((with_reducible refine gate_store (t := 9) (p := 16) rfl ?_); refine store_event (t := 9) (p := 16) (v := ?vo_w10) (w1 := (w8.setCell ⟨go6, (x5_1 : Int).toNat, none⟩ (.string t148))) ?hg ?ho ?hn ?hr ?_; (case ho => rfl); (case hg => rfl); (case hn => rfl); (case hr => first | (go_simp; done) | (go_simp; rfl)); intro w10 hw; have hg : w8.grownBy w10 (some go6) := (by rw [hw]; exact HP9.2); have hp_ : Kd.R Kd.string 9 w10 w0.heap.size (fun k_ => (P0_ k_ ∨ w.heap.size ≤ k_)) (.slice (some ⟨go6, 0, none⟩) x0_1.length co7) y149 := (by rw [hw, Ny149.out]; exact HP9.1); clear HP9; have n0_ := Aside0.mk (hp_); have n1_ := Aside0.mk ((by rw [hw]; exact below_set (HB.out) GB6.out : Below w0.heap.size w0 w10)); have n2_ := Aside0.mk (Kept.of_grown (S := (fun k_ => P0_ k_)) hg (by repeat (first | (with_reducible first | exact HK.out | apply Kept.alloc | apply Kept.drewN | apply Kept.drew) | exact HK.out)) (fun k_ e_ => (HO_0.out.1 k_ e_))); clear HO_0; clear HB; clear HK; have HO_0 := n0_; have HB := n1_; have HK := n2_; clear n0_ n1_ n2_; clear hg hw hp_))
          go_roundg k1
          case measure => have := HK1.out; omega
          case rel => exact ⟨(y149), (wrap64 (x1_1 + 1)), (wrap64 (x5_1 + 1)), (by first | rfl | (simp; done) | (simp [*]; done)), (by first | rfl | (simp; done) | (simp [*]; done)), H', ⟨by have := HK1.out; omega⟩, ⟨by (with_reducible repeat (first | apply Kd.R_alloc | apply Kd.R_drewN | apply Kd.R_drew)); exact HO_0.out⟩, ⟨by repeat (first | (with_reducible first | exact HK.out | apply Kept.alloc | apply Kept.drewN | apply Kept.drew) | exact HK.out)⟩, ⟨by repeat (first | (with_reducible first | exact HB.out | apply below_alloc | apply pw_below_drewN | apply below_drew1) | exact HB.out)⟩⟩
        · rw [if_neg c5] at H
          exact absurd H (by simp)
      · rw [if_neg c3] at H
        have c3b0 : decide (x5_1 < (x0_1.length : Int)) = false := decide_eq_false c3
        clear c3
        simp only [Option.some.injEq, Prod.mk.injEq] at H
        obtain ⟨rfl, rfl⟩ := H
        obtain ⟨Ao11, co11, eo11⟩ := Kd.R_slice HO_0.out
        subst eo11
        go_wp2
        go_ret
        exact ⟨by first | rfl | (simp [errW_none, errW_some] <;> rfl) | (simp [*, errW_none, errW_some] <;> rfl), by (with_reducible repeat (first | apply Kd.R_alloc | apply Kd.R_drewN | apply Kd.R_drew)); exact HO_0.out, by repeat (first | (with_reducible first | exact HB.out | apply below_alloc | apply pw_below_drewN | apply below_drew1) | exact HB.out), by repeat (first | (with_reducible first | exact HK.out | apply Kept.alloc | apply Kept.drewN | apply Kept.drew) | exact HK.out)⟩
end Go.Proofs.Ytolmblfffnnabaa.P
namespace Go.Proofs.Ytolmblfffnnabaa.P
open Go.RowKit Go.Proofs.YtolmblfffnnabaaW.PrintWords Go.Proofs.YtolmblfffnnabaaW.PrintLast Go.Proofs.YtolmblfffnnabaaW.PrintMore
attribute [local go_sem] max2_int min2_int max_two min_two max_three min_three max_four min_four   
set_option linter.unusedVariables false
set_option linter.unusedSimpArgs false
def laws_heldStringS.l0 : Nat → List ByteArray → Int → Int → Option (Int)
  | 0, _, _, _ => none
  | k + 1, x0, x1, x5 => if x5 < (x0.length : Int) then (if 0 ≤ x5 then ((laws_markText.f k x1).bind fun t163 => (if (rdOf ByteArray.empty x0 x5).toList = t163.toList then (laws_heldStringS.l0 k x0 (wrap64 (x1 + 1)) (wrap64 (x5 + 1))) else (some (-1)))) else (none)) else (some x1)
def laws_heldStringS.f (k : Nat) (l0 : List ByteArray) (a1 : Int) : Option (Int) := laws_heldStringS.l0 k l0 a1 0
theorem laws_heldStringS.mono_l : ∀ k, (∀ y0 y1 y2, LeO (laws_heldStringS.l0 k y0 y1 y2) (laws_heldStringS.l0 (k + 1) y0 y1 y2))
  | 0 => fun _ _ _ r h => by simp [laws_heldStringS.l0] at h
  | k + 1 => by
    have ih0 := laws_heldStringS.mono_l k
    · intro y0 y1 y2
      unfold laws_heldStringS.l0
      repeat' first
      | (with_reducible exact ih0 _ _ _)
      | (with_reducible exact laws_markText.mono _ _)
      | (with_reducible exact LeO.refl _)
      | (with_reducible exact LeO.none _)
      | (with_reducible refine LeO.ite ?_ ?_)
      | (with_reducible refine LeO.bind ?_ (fun _ => ?_))
      | exact ih0 _ _ _
      | exact laws_markText.mono _ _
      | exact LeO.none _
      | refine LeO.ite ?_ ?_
      | refine LeO.bind ?_ (fun _ => ?_)
theorem laws_heldStringS.mono : ∀ a0 a1 k, LeO (laws_heldStringS.f k a0 a1) (laws_heldStringS.f (k + 1) a0 a1) := by
  intro a0 a1 k
  have ih0 := laws_heldStringS.mono_l k
  unfold laws_heldStringS.f
  repeat' first
      | (with_reducible exact ih0 _ _ _)
      | (with_reducible exact laws_markText.mono _ _)
      | (with_reducible exact LeO.refl _)
      | (with_reducible exact LeO.none _)
      | (with_reducible refine LeO.ite ?_ ?_)
      | (with_reducible refine LeO.bind ?_ (fun _ => ?_))
      | exact ih0 _ _ _
      | exact laws_markText.mono _ _
      | exact LeO.none _
      | refine LeO.ite ?_ ?_
      | refine LeO.bind ?_ (fun _ => ?_)
set_option maxHeartbeats 8000000 in
set_option maxRecDepth 100000 in
theorem laws_heldStringS.calls (k : Nat) (A0 : Option Addr) (c0 : Nat) (l0 : List ByteArray) (a1 : Int) (r : Int) (w : World) (hr0 : Kd.C Kd.string w A0 l0.length l0) (hc0 : l0.length ≤ c0) (h : laws_heldStringS.f k l0 a1 = some r) :
    Calls Try.prog 47 #[.slice A0 l0.length c0, .int .i64 a1] w fun e w' => e = .returned (.int .i64 r) ∧ Below w.heap.size w w' := by
  have HR0 := Aside0.mk hr0
  have HC0 := Aside0.mk hc0
  clear hr0 hc0
  have HB := Aside0.mk (Below.refl w.heap.size w)
  have H : (laws_heldStringS.l0 k l0 a1 0) = some r := h
  clear h
  have H' := Aside0.mk H
  clear H
  go_enter Try.func47, Try.ntmps47
  go_wp2
  go_loopg [1, 5] k (fun kq v1 v5 w' => ∃ (x1_1 : Int) (x5_1 : Int), v1 = .int .i64 x1_1 ∧ v5 = .int .i64 x5_1 ∧ Aside0 (laws_heldStringS.l0 kq l0 x1_1 x5_1 = some r) ∧ Aside0 (kq ≤ k) ∧ Aside0 (Below w.heap.size w w'))
  case atStart => exact ⟨(a1), (0), (by first | rfl | (simp; done) | (simp [*]; done)), (by first | rfl | (simp; done) | (simp [*]; done)), H', ⟨Nat.le_refl _⟩, ⟨by repeat (first | (with_reducible first | exact HB.out | apply below_alloc | apply pw_below_drewN | apply below_drew1) | exact HB.out)⟩⟩
  case round =>
    clear H'
    try clear p2
    obtain ⟨x1_1, x5_1, rfl, rfl, HA, HK1, HB⟩ := hrel
    cases gk with
    | zero => exact absurd HA.out (by simp [laws_heldStringS.l0])
    | succ k1 =>
      have H := HA.out
      clear HA
      simp only [laws_heldStringS.l0] at H
      by_cases c3 : x5_1 < (l0.length : Int)
      · rw [if_pos c3] at H
        have c3b0 : decide (x5_1 < (l0.length : Int)) = true := decide_eq_true c3
        clear c3
        by_cases c4 : 0 ≤ x5_1
        · rw [if_pos c4] at H
          have c4b0 : decide (0 ≤ x5_1) = true := decide_eq_true c4
          clear c4
          replace H := Option.bind_eq_some_iff.mp H
          obtain ⟨t163, A50, H⟩ := H
          replace H : (if (rdOf ByteArray.empty l0 x5_1).toList = t163.toList then (laws_heldStringS.l0 k1 l0 (wrap64 (x1_1 + 1)) (wrap64 (x5_1 + 1))) else (some (-1))) = some r := H
          have A5 := Aside0.mk A50
          clear A50
          by_cases c6 : (rdOf ByteArray.empty l0 x5_1).toList = t163.toList
          · rw [if_pos c6] at H
            have c6b0 : ((rdOf ByteArray.empty l0 x5_1).toList == t163.toList) = true := beq_iff_eq.mpr c6
            have c6b1 : ((rdOf ByteArray.empty l0 x5_1).toList != t163.toList) = false := bne_eq_false_iff_eq.mpr c6
            clear c6
            have H' := Aside0.mk H
            clear H
            try go_wp2
            have n0_ := Aside0.mk (below_drew1 HB.out)
            clear HB
            have HB := n0_
            clear n0_
            have p162 : 0 ≤ (x5_1 : Int) := of_decide_eq_true (by first | (with_reducible assumption) | assumption)
            have q162 : x5_1 < (l0.length : Int) := of_decide_eq_true (by first | (with_reducible assumption) | assumption)
            obtain ⟨ad162, e162, hx162_0⟩ := Kd.at_string HR0.out x5_1 p162 q162
            have hw162_0 := hx162_0
            cases e162
            replace hx162_0 := (HB.out.cell (World.block_lt_of_cell? w _ hx162_0)).trans hx162_0
            replace p162 := eq_true p162
            replace q162 := eq_true q162
            refine start_ (n := 7) (S := fun w' => w'.cell? (ad162.add (x5_1).toNat) = some (.string (rdOf ByteArray.empty l0 x5_1))) (ds := []) #[false, false, false, false, false, false, false] (by kernel_rfl) rfl rfl (((HB.out.cell (World.block_lt_of_cell? w _ hw162_0)).trans hw162_0)) (fun hHeld => ?_)
            generalize wr.drew = w7 at HB hx162_0 hHeld ⊢
            refine pure_ (i := 0) (N := some 12) (v := ?_) (a' := ?_) #[true, false, false, false, false, false, false] rfl rfl (by kernel_rfl) (fun _ _ _ h => h) (Or.inl ⟨by rfl, ?_⟩) ?_ ?_
            rotate_left
            · intro w'
              go_simp
              with_reducible rfl
            rotate_left
            · simp only [Act.put, List.setIfInBounds_toArray, List.set_cons_zero, List.set_cons_succ, i64_w, i32_w]
              rfl
            refine pure_ (i := 1) (N := some 13) (v := ?_) (a' := ?_) #[true, true, false, false, false, false, false] rfl rfl (by kernel_rfl) (fun _ _ _ h => h) (Or.inl ⟨by rfl, ?_⟩) ?_ ?_
            rotate_left
            · intro w'
              go_simp
              with_reducible rfl
            rotate_left
            · simp only [Act.put, List.setIfInBounds_toArray, List.set_cons_zero, List.set_cons_succ, i64_w, i32_w]
              rfl
            refine pure_ (i := 2) (N := some 14) (v := ?_) (a' := ?_) #[true, true, true, false, false, false, false] rfl rfl (by kernel_rfl) (fun _ _ _ h => h) (Or.inl ⟨by rfl, ?_⟩) ?_ ?_
            rotate_left
            · intro w'
              go_simp
              with_reducible rfl
            rotate_left
            · simp only [Act.put, List.setIfInBounds_toArray, List.set_cons_zero, List.set_cons_succ, i64_w, i32_w]
              rfl
            refine pure_ (i := 4) (N := some 16) (v := ?_) (a' := ?_) #[true, true, true, false, true, false, false] rfl rfl (by kernel_rfl) (fun _ _ _ h => h) (Or.inl ⟨by rfl, ?_⟩) ?_ ?_
            rotate_left
            · intro w'
              go_simp
              with_reducible rfl
            rotate_left
            · simp only [Act.put, List.setIfInBounds_toArray, List.set_cons_zero, List.set_cons_succ, i64_w, i32_w]
              rfl
            refine take_ (i := 3) (N := some 15) (v := ?_) (a' := ?_) #[true, true, true, true, true, false, false] rfl rfl (by kernel_rfl) (fun _ _ _ h => h) (Or.inl ⟨by rfl, ?_⟩) hHeld ?_ ?_
            rotate_left
            · intro w' s0
              go_simp
              with_reducible rfl
            rotate_left
            · simp only [Act.put, List.setIfInBounds_toArray, List.set_cons_zero, List.set_cons_succ, i64_w, i32_w]
              rfl
            refine one_ (i := 5) (N := some 17) #[true, true, true, true, true, true, false] rfl rfl (by kernel_rfl) (by decide) (fun K hK => ?_)
            refine goes_ Try.func71 (by kernel_rfl) rfl #[.int .i64 x1_1] (by rfl) rfl rfl (by (try simp only [List.map_toArray, List.map_cons, List.map_nil]); first | done | rfl | (simp only [List.length_drop, List.length_take]; rfl)) ?_
            with_reducible refine (laws_markText.calls k1 x1_1 t163 _ A5.out).mono ?_
            rintro e w8 ⟨rfl, hb⟩
            refine ⟨_, rfl, ?_⟩
            have n0_ := Aside0.mk (below_step (by repeat (first | (with_reducible first | exact HB.out | apply below_alloc | apply pw_below_drewN | apply below_drew1) | exact HB.out)) hb)
            clear HB
            have HB := n0_
            clear n0_
            (try clear hb)
            (try clear hb2)
            (try clear hk)
            (try clear hi)
            refine hK.out _ _ (((HB.out.cell (World.block_lt_of_cell? w _ hw162_0)).trans hw162_0)) (fun hHeld => ?_)
            clear hK K
            refine norm_ (a' := ?_) ?_ ?_
            rotate_left
            · show Act.put _ (some 17) _ = _
              simp only [Act.put, List.setIfInBounds_toArray, List.set_cons_zero, List.set_cons_succ, i64_w, i32_w]
              rfl
            refine pure_ (i := 6) (N := some 18) (v := ?_) (a' := ?_) #[true, true, true, true, true, true, true] rfl rfl (by kernel_rfl) (fun _ _ _ h => h) (Or.inl ⟨by rfl, ?_⟩) ?_ ?_
            rotate_left
            · intro w'
              go_simp
              with_reducible rfl
            rotate_left
            · simp only [Act.put, List.setIfInBounds_toArray, List.set_cons_zero, List.set_cons_succ, i64_w, i32_w]
              rfl
            refine done_ (by kernel_rfl) ?_
            try go_wp2
            go_roundg k1
            case measure => have := HK1.out; omega
            case rel => exact ⟨(wrap64 (x1_1 + 1)), (wrap64 (x5_1 + 1)), (by first | rfl | (simp; done) | (simp [*]; done)), (by first | rfl | (simp; done) | (simp [*]; done)), H', ⟨by have := HK1.out; omega⟩, ⟨by repeat (first | (with_reducible first | exact HB.out | apply below_alloc | apply pw_below_drewN | apply below_drew1) | exact HB.out)⟩⟩
          · rw [if_neg c6] at H
            have c6b0 : ((rdOf ByteArray.empty l0 x5_1).toList == t163.toList) = false := beq_eq_false_iff_ne.mpr c6
            have c6b1 : ((rdOf ByteArray.empty l0 x5_1).toList != t163.toList) = true := bne_iff_ne.mpr c6
            obtain rfl := Option.some.inj H
            try go_wp2
            have n0_ := Aside0.mk (below_drew1 HB.out)
            clear HB
            have HB := n0_
            clear n0_
            have p162 : 0 ≤ (x5_1 : Int) := of_decide_eq_true (by first | (with_reducible assumption) | assumption)
            have q162 : x5_1 < (l0.length : Int) := of_decide_eq_true (by first | (with_reducible assumption) | assumption)
            obtain ⟨ad162, e162, hx162_0⟩ := Kd.at_string HR0.out x5_1 p162 q162
            have hw162_0 := hx162_0
            cases e162
            replace hx162_0 := (HB.out.cell (World.block_lt_of_cell? w _ hx162_0)).trans hx162_0
            replace p162 := eq_true p162
            replace q162 := eq_true q162
            refine start_ (n := 7) (S := fun w' => w'.cell? (ad162.add (x5_1).toNat) = some (.string (rdOf ByteArray.empty l0 x5_1))) (ds := []) #[false, false, false, false, false, false, false] (by kernel_rfl) rfl rfl (((HB.out.cell (World.block_lt_of_cell? w _ hw162_0)).trans hw162_0)) (fun hHeld => ?_)
            generalize wr.drew = w9 at HB hx162_0 hHeld ⊢
            refine pure_ (i := 0) (N := some 12) (v := ?_) (a' := ?_) #[true, false, false, false, false, false, false] rfl rfl (by kernel_rfl) (fun _ _ _ h => h) (Or.inl ⟨by rfl, ?_⟩) ?_ ?_
            rotate_left
            · intro w'
              go_simp
              with_reducible rfl
            rotate_left
            · simp only [Act.put, List.setIfInBounds_toArray, List.set_cons_zero, List.set_cons_succ, i64_w, i32_w]
              rfl
            refine pure_ (i := 1) (N := some 13) (v := ?_) (a' := ?_) #[true, true, false, false, false, false, false] rfl rfl (by kernel_rfl) (fun _ _ _ h => h) (Or.inl ⟨by rfl, ?_⟩) ?_ ?_
            rotate_left
            · intro w'
              go_simp
              with_reducible rfl
            rotate_left
            · simp only [Act.put, List.setIfInBounds_toArray, List.set_cons_zero, List.set_cons_succ, i64_w, i32_w]
              rfl
            refine pure_ (i := 2) (N := some 14) (v := ?_) (a' := ?_) #[true, true, true, false, false, false, false] rfl rfl (by kernel_rfl) (fun _ _ _ h => h) (Or.inl ⟨by rfl, ?_⟩) ?_ ?_
            rotate_left
            · intro w'
              go_simp
              with_reducible rfl
            rotate_left
            · simp only [Act.put, List.setIfInBounds_toArray, List.set_cons_zero, List.set_cons_succ, i64_w, i32_w]
              rfl
            refine pure_ (i := 4) (N := some 16) (v := ?_) (a' := ?_) #[true, true, true, false, true, false, false] rfl rfl (by kernel_rfl) (fun _ _ _ h => h) (Or.inl ⟨by rfl, ?_⟩) ?_ ?_
            rotate_left
            · intro w'
              go_simp
              with_reducible rfl
            rotate_left
            · simp only [Act.put, List.setIfInBounds_toArray, List.set_cons_zero, List.set_cons_succ, i64_w, i32_w]
              rfl
            refine take_ (i := 3) (N := some 15) (v := ?_) (a' := ?_) #[true, true, true, true, true, false, false] rfl rfl (by kernel_rfl) (fun _ _ _ h => h) (Or.inl ⟨by rfl, ?_⟩) hHeld ?_ ?_
            rotate_left
            · intro w' s0
              go_simp
              with_reducible rfl
            rotate_left
            · simp only [Act.put, List.setIfInBounds_toArray, List.set_cons_zero, List.set_cons_succ, i64_w, i32_w]
              rfl
            refine one_ (i := 5) (N := some 17) #[true, true, true, true, true, true, false] rfl rfl (by kernel_rfl) (by decide) (fun K hK => ?_)
            refine goes_ Try.func71 (by kernel_rfl) rfl #[.int .i64 x1_1] (by rfl) rfl rfl (by (try simp only [List.map_toArray, List.map_cons, List.map_nil]); first | done | rfl | (simp only [List.length_drop, List.length_take]; rfl)) ?_
            with_reducible refine (laws_markText.calls k1 x1_1 t163 _ A5.out).mono ?_
            rintro e w10 ⟨rfl, hb⟩
            refine ⟨_, rfl, ?_⟩
            have n0_ := Aside0.mk (below_step (by repeat (first | (with_reducible first | exact HB.out | apply below_alloc | apply pw_below_drewN | apply below_drew1) | exact HB.out)) hb)
            clear HB
            have HB := n0_
            clear n0_
            (try clear hb)
            (try clear hb2)
            (try clear hk)
            (try clear hi)
            refine hK.out _ _ (((HB.out.cell (World.block_lt_of_cell? w _ hw162_0)).trans hw162_0)) (fun hHeld => ?_)
            clear hK K
            refine norm_ (a' := ?_) ?_ ?_
            rotate_left
            · show Act.put _ (some 17) _ = _
              simp only [Act.put, List.setIfInBounds_toArray, List.set_cons_zero, List.set_cons_succ, i64_w, i32_w]
              rfl
            refine pure_ (i := 6) (N := some 18) (v := ?_) (a' := ?_) #[true, true, true, true, true, true, true] rfl rfl (by kernel_rfl) (fun _ _ _ h => h) (Or.inl ⟨by rfl, ?_⟩) ?_ ?_
            rotate_left
            · intro w'
              go_simp
              with_reducible rfl
            rotate_left
            · simp only [Act.put, List.setIfInBounds_toArray, List.set_cons_zero, List.set_cons_succ, i64_w, i32_w]
              rfl
            refine done_ (by kernel_rfl) ?_
            try go_wp2
            go_ret
            exact ⟨by first | rfl | (simp [errW_none, errW_some] <;> rfl) | (simp [*, errW_none, errW_some] <;> rfl), by repeat (first | (with_reducible first | exact HB.out | apply below_alloc | apply pw_below_drewN | apply below_drew1) | exact HB.out)⟩
        · rw [if_neg c4] at H
          exact absurd H (by simp)
      · rw [if_neg c3] at H
        have c3b0 : decide (x5_1 < (l0.length : Int)) = false := decide_eq_false c3
        clear c3
        obtain rfl := Option.some.inj H
        go_wp2
        go_ret
        exact ⟨by first | rfl | (simp [errW_none, errW_some] <;> rfl) | (simp [*, errW_none, errW_some] <;> rfl), by repeat (first | (with_reducible first | exact HB.out | apply below_alloc | apply pw_below_drewN | apply below_drew1) | exact HB.out)⟩
end Go.Proofs.Ytolmblfffnnabaa.P
namespace Go.Proofs.Ytolmblfffnnabaa.P
open Go.RowKit Go.Proofs.YtolmblfffnnabaaW.PrintWords
def mInts (m : Int) (n : Nat) : List Int := (List.range n).map fun j : Nat => m + (j : Int)
theorem mInts_get {m : Int} {n j : Nat} (h : j < n) : (mInts m n)[j]? = some (m + (j : Int)) := by simp [mInts, h]
theorem laws_markIntS_ev {l : List Int} {m : Int} (h0 : 0 ≤ m) (hm : m + l.length ≤ 9223372036854775807) : Ev (fun k => laws_markIntS.f k l m) (m + l.length, mInts m l.length) := by
  have key : ∀ d i (xs : List Int), i + d = l.length → xs.length = l.length → (∀ j, j < i → xs[j]? = some (m + (j : Int))) → Ev (fun k => laws_markIntS.l0 k xs (m + (i : Int)) (i : Int)) (m + (l.length : Int), mInts m l.length) := by
    intro d
    induction d with
    | zero =>
      intro i xs hd hx hj
      obtain rfl : i = l.length := by omega
      refine Ev.step (f := fun _ => some (m + (l.length : Int), xs)) (fun k => by rw [laws_markIntS.l0, if_neg (by omega)]) ?_
      have : xs = mInts m l.length := by
        apply List.ext_getElem?
        intro j
        by_cases h : j < l.length
        · rw [hj j h, mInts_get h]
        · rw [List.getElem?_eq_none (by omega), List.getElem?_eq_none (by simp [mInts]; omega)]
      rw [this]
      exact Ev.now _
    | succ d ih =>
      intro i xs hd hx hj
      have e : wrap64 (m + (i : Int) + 1) = m + ((i + 1 : Nat) : Int) := by rw [w64 (by omega) (by omega)]; omega
      refine Ev.step (f := fun k => laws_markIntS.l0 k (xs.set i (m + (i : Int))) (m + ((i + 1 : Nat) : Int)) ((i + 1 : Nat) : Int)) (fun k => by rw [laws_markIntS.l0, if_pos (by omega), if_pos (by omega), e, w64s (n := l.length) (by omega) (by omega), Int.toNat_natCast]) ?_
      refine ih (i + 1) _ (by omega) (by rw [List.length_set]; exact hx) (fun j h => ?_)
      rcases Nat.lt_or_ge j i with h2 | h2
      · rw [List.getElem?_set_ne (by omega)]
        exact hj j h2
      · obtain rfl : j = i := by omega
        rw [List.getElem?_set_self (by omega)]
  have := key l.length 0 l (by omega) rfl (fun j h => by omega)
  rw [show m + ((0 : Nat) : Int) = m by omega] at this
  exact this
theorem laws_heldIntS_ev {n : Nat} {m : Int} (h0 : 0 ≤ m) (hm : m + n ≤ 9223372036854775807) : Ev (fun k => laws_heldIntS.f k (mInts m n) m) (m + n) := by
  have hl : (mInts m n).length = n := by simp [mInts]
  have key : ∀ d i, i + d = n → Ev (fun k => laws_heldIntS.l0 k (mInts m n) (m + (i : Int)) (i : Int)) (m + (n : Int)) := by
    intro d
    induction d with
    | zero =>
      intro i hd
      obtain rfl : i = n := by omega
      exact Ev.step (f := fun _ => some (m + (i : Int))) (fun k => by rw [laws_heldIntS.l0, if_neg (by omega)]) (Ev.now _)
    | succ d ih =>
      intro i hd
      have e : wrap64 (m + (i : Int) + 1) = m + ((i + 1 : Nat) : Int) := by rw [w64 (by omega) (by omega)]; omega
      have hr : rd (mInts m n) (i : Int) = m + (i : Int) := by rw [rd_nat (by omega)]; have := mInts_get (m := m) (n := n) (j := i) (by omega); rw [List.getElem?_eq_getElem (by omega)] at this; exact Option.some.inj this
      refine Ev.step (f := fun k => laws_heldIntS.l0 k (mInts m n) (m + ((i + 1 : Nat) : Int)) ((i + 1 : Nat) : Int)) (fun k => by rw [laws_heldIntS.l0, if_pos (by omega), if_pos (by omega), hr, if_pos rfl, e, w64s (n := n) (by omega) (by omega)]) ?_
      exact ih (i + 1) (by omega)
  have := key n 0 (by omega)
  rw [show m + ((0 : Nat) : Int) = m by omega] at this
  exact this
end Go.Proofs.Ytolmblfffnnabaa.P
namespace Go.Proofs.Ytolmblfffnnabaa.P
open Go.RowKit Go.Proofs.YtolmblfffnnabaaW.PrintWords
theorem strOfNums_size1 (x : Int) : (strOfNums [x]).size = 1 := by simp [strOfNums, ByteArray.size]
theorem markText_ex {m : Int} (hm : m ≤ 4611686018427387904) : ∃ t, Ev (fun k => laws_markText.f k m) t := by
  have key : ∀ d : Nat, ∀ (x : Int) (t : ByteArray), x.toNat ≤ d → 0 ≤ x → x + t.size ≤ 4611686018427387904 → ∃ r, Ev (fun k => laws_markText.l0 k x t) r := by
    intro d
    induction d with
    | zero =>
      intro x t hd hx hb
      exact ⟨_, Ev.step (f := fun _ => some ((⟨#[109]⟩ : ByteArray) ++ t)) (fun k => by rw [laws_markText.l0, if_neg (by omega), if_pos (by omega)]) (Ev.now _)⟩
    | succ d ih =>
      intro x t hd hx hb
      by_cases h : x > 0
      · have e : wrap64 (Int.tdiv x 10) = x / 10 := by rw [Int.tdiv_eq_ediv_of_nonneg hx]; exact w64 (by omega) (by omega)
        obtain ⟨r, hr⟩ := ih (x / 10) (strOfNums [(wrap64 (48 + (Int.tmod x 10))) % 256] ++ t) (by omega) (by omega) (by rw [ByteArray.size_append, strOfNums_size1]; omega)
        exact ⟨r, Ev.step (fun k => by rw [laws_markText.l0, if_pos h, Option.bind_some, if_pos (by rw [strOfNums_size1]; omega), e]) hr⟩
      · exact ⟨_, Ev.step (f := fun _ => some ((⟨#[109]⟩ : ByteArray) ++ t)) (fun k => by rw [laws_markText.l0, if_neg h, if_pos (by omega)]) (Ev.now _)⟩
  by_cases h : m ≤ 0
  · exact ⟨_, Ev.congr (f := fun _ => some (⟨#[109, 48]⟩ : ByteArray)) (fun k => by unfold laws_markText.f; rw [if_pos h]) (Ev.now _)⟩
  · obtain ⟨r, hr⟩ := key m.toNat m ⟨#[]⟩ (Nat.le_refl _) (by omega) (by simp [ByteArray.size]; omega)
    exact ⟨r, Ev.congr (fun k => by unfold laws_markText.f; rw [if_neg h]) hr⟩
open Classical in
noncomputable def mT (m : Int) : ByteArray := if h : ∃ t, Ev (fun k => laws_markText.f k m) t then h.choose else ⟨#[]⟩
theorem mT_ev {m : Int} (hm : m ≤ 4611686018427387904) : Ev (fun k => laws_markText.f k m) (mT m) := by
  have h := markText_ex hm
  unfold mT
  rw [dif_pos h]
  exact h.choose_spec
noncomputable def mStrs (m : Int) (n : Nat) : List ByteArray := (List.range n).map fun j : Nat => mT (m + (j : Int))
theorem mStrs_get {m : Int} {n j : Nat} (h : j < n) : (mStrs m n)[j]? = some (mT (m + (j : Int))) := by simp [mStrs, h]
theorem laws_markStringS_ev {l : List ByteArray} {m : Int} (h0 : 0 ≤ m) (hm : m + l.length ≤ 4611686018427387904) : Ev (fun k => laws_markStringS.f k l m) (m + l.length, mStrs m l.length) := by
  have key : ∀ d i (xs : List ByteArray), i + d = l.length → xs.length = l.length → (∀ j, j < i → xs[j]? = some (mT (m + (j : Int)))) → Ev (fun k => laws_markStringS.l0 k xs (m + (i : Int)) (i : Int)) (m + (l.length : Int), mStrs m l.length) := by
    intro d
    induction d with
    | zero =>
      intro i xs hd hx hj
      obtain rfl : i = l.length := by omega
      refine Ev.step (f := fun _ => some (m + (l.length : Int), xs)) (fun k => by rw [laws_markStringS.l0, if_neg (by omega)]) ?_
      have : xs = mStrs m l.length := by
        apply List.ext_getElem?
        intro j
        by_cases h : j < l.length
        · rw [hj j h, mStrs_get h]
        · rw [List.getElem?_eq_none (by omega), List.getElem?_eq_none (by simp [mStrs]; omega)]
      rw [this]
      exact Ev.now _
    | succ d ih =>
      intro i xs hd hx hj
      have e : wrap64 (m + (i : Int) + 1) = m + ((i + 1 : Nat) : Int) := by rw [w64 (by omega) (by omega)]; omega
      refine Ev.step (f := fun k => (laws_markText.f k (m + (i : Int))).bind fun t => laws_markStringS.l0 k (xs.set i t) (m + ((i + 1 : Nat) : Int)) ((i + 1 : Nat) : Int)) (fun k => by rw [laws_markStringS.l0, if_pos (by omega), e, w64s (n := l.length) (by omega) (by omega), Int.toNat_natCast]; simp only [if_pos (show (0 : Int) ≤ (i : Int) by omega)]) ?_
      refine Ev.bind (mT_ev (by omega)) ?_
      refine ih (i + 1) _ (by omega) (by rw [List.length_set]; exact hx) (fun j h => ?_)
      rcases Nat.lt_or_ge j i with h2 | h2
      · rw [List.getElem?_set_ne (by omega)]
        exact hj j h2
      · obtain rfl : j = i := by omega
        rw [List.getElem?_set_self (by omega)]
  have := key l.length 0 l (by omega) rfl (fun j h => by omega)
  rw [show m + ((0 : Nat) : Int) = m by omega] at this
  exact this
theorem laws_heldStringS_ev {n : Nat} {m : Int} (h0 : 0 ≤ m) (hm : m + n ≤ 4611686018427387904) : Ev (fun k => laws_heldStringS.f k (mStrs m n) m) (m + n) := by
  have hl : (mStrs m n).length = n := by simp [mStrs]
  have key : ∀ d i, i + d = n → Ev (fun k => laws_heldStringS.l0 k (mStrs m n) (m + (i : Int)) (i : Int)) (m + (n : Int)) := by
    intro d
    induction d with
    | zero =>
      intro i hd
      obtain rfl : i = n := by omega
      exact Ev.step (f := fun _ => some (m + (i : Int))) (fun k => by rw [laws_heldStringS.l0, if_neg (by omega)]) (Ev.now _)
    | succ d ih =>
      intro i hd
      have e : wrap64 (m + (i : Int) + 1) = m + ((i + 1 : Nat) : Int) := by rw [w64 (by omega) (by omega)]; omega
      have hr : rdOf ByteArray.empty (mStrs m n) (i : Int) = mT (m + (i : Int)) := by rw [rdOf_nat (by omega)]; have := mStrs_get (m := m) (n := n) (j := i) (by omega); rw [List.getElem?_eq_getElem (by omega)] at this; exact Option.some.inj this
      refine Ev.step (f := fun k => (laws_markText.f k (m + (i : Int))).bind fun t => if (mT (m + (i : Int))).toList = t.toList then laws_heldStringS.l0 k (mStrs m n) (m + ((i + 1 : Nat) : Int)) ((i + 1 : Nat) : Int) else some (-1)) (fun k => by rw [laws_heldStringS.l0, if_pos (by omega), if_pos (by omega), hr, e, w64s (n := n) (by omega) (by omega)]) ?_
      refine Ev.bind (mT_ev (by omega)) ?_
      exact Ev.congr (fun k => by rw [if_pos rfl]) (ih (i + 1) (by omega))
  have := key n 0 (by omega)
  rw [show m + ((0 : Nat) : Int) = m by omega] at this
  exact this
end Go.Proofs.Ytolmblfffnnabaa.P
namespace Go.Proofs.Ytolmblfffnnabaa.P
open Go.RowKit Go.Proofs.YtolmblfffnnabaaW.PrintWords Go.Proofs.YtolmblfffnnabaaW.PrintLast Go.Proofs.YtolmblfffnnabaaW.PrintMore
attribute [local go_sem] max2_int min2_int max_two min_two max_three min_three max_four min_four   
set_option linter.unusedVariables false
set_option linter.unusedSimpArgs false
def laws_markStore.f (k : Nat) (l0_0 : List ByteArray) (l0_1 : List ByteArray) (l0_2 : List Int) (l0_3 : List Int) (l0_4 : List Int) (a1 : Int) : Option (Int × List ByteArray × List ByteArray × List Int × List Int × List Int) := (laws_markStringS.f k l0_0 a1).bind fun bt151 => ((laws_markStringS.f k l0_1 bt151.1).bind fun bt153 => ((laws_markIntS.f k l0_2 bt153.1).bind fun bt155 => ((laws_markIntS.f k l0_3 bt155.1).bind fun bt157 => ((laws_markIntS.f k l0_4 bt157.1).bind fun bt159 => (some (bt159.1, bt151.2, bt153.2, bt155.2, bt157.2, bt159.2))))))
theorem laws_markStore.mono : ∀ a0 a1 a2 a3 a4 a5 k, LeO (laws_markStore.f k a0 a1 a2 a3 a4 a5) (laws_markStore.f (k + 1) a0 a1 a2 a3 a4 a5) := by
  intro a0 a1 a2 a3 a4 a5 k
  unfold laws_markStore.f
  repeat' first
      | (with_reducible exact laws_markIntS.mono _ _ _)
      | (with_reducible exact laws_markStringS.mono _ _ _)
      | (with_reducible exact LeO.refl _)
      | (with_reducible exact LeO.none _)
      | (with_reducible refine LeO.ite ?_ ?_)
      | (with_reducible refine LeO.bind ?_ (fun _ => ?_))
      | exact laws_markIntS.mono _ _ _
      | exact laws_markStringS.mono _ _ _
      | exact LeO.none _
      | refine LeO.ite ?_ ?_
      | refine LeO.bind ?_ (fun _ => ?_)
set_option maxHeartbeats 8000000 in
set_option maxRecDepth 100000 in
theorem laws_markStore.calls (k : Nat) (P0_0_ : Nat → Prop) (u9000_ : Value) (l0_0 : List ByteArray) (P0_1_ : Nat → Prop) (u9001_ : Value) (l0_1 : List ByteArray) (P0_2_ : Nat → Prop) (u9002_ : Value) (l0_2 : List Int) (P0_3_ : Nat → Prop) (u9003_ : Value) (l0_3 : List Int) (P0_4_ : Nat → Prop) (u9004_ : Value) (l0_4 : List Int) (a1 : Int) (r1 : Int) (r2 : List ByteArray) (r3 : List ByteArray) (r4 : List Int) (r5 : List Int) (r6 : List Int) (w0 w : World) (hB : Below w0.heap.size w0 w) (ho0_0 : Kd.R Kd.string 9 w w0.heap.size P0_0_ u9000_ l0_0) (hp0_0_0_1 : ∀ k_, P0_0_ k_ → ¬ P0_1_ k_) (ho0_1 : Kd.R Kd.string 9 w w0.heap.size P0_1_ u9001_ l0_1) (hp0_1_0_0 : ∀ k_, P0_1_ k_ → ¬ P0_0_ k_) (ho0_2 : Kd.R (Kd.int .i64) 3 w w0.heap.size P0_2_ u9002_ l0_2) (hp0_2_0_3 : ∀ k_, P0_2_ k_ → ¬ P0_3_ k_) (hp0_2_0_4 : ∀ k_, P0_2_ k_ → ¬ P0_4_ k_) (ho0_3 : Kd.R (Kd.int .i64) 3 w w0.heap.size P0_3_ u9003_ l0_3) (hp0_3_0_2 : ∀ k_, P0_3_ k_ → ¬ P0_2_ k_) (hp0_3_0_4 : ∀ k_, P0_3_ k_ → ¬ P0_4_ k_) (ho0_4 : Kd.R (Kd.int .i64) 3 w w0.heap.size P0_4_ u9004_ l0_4) (hp0_4_0_2 : ∀ k_, P0_4_ k_ → ¬ P0_2_ k_) (hp0_4_0_3 : ∀ k_, P0_4_ k_ → ¬ P0_3_ k_) (h : laws_markStore.f k l0_0 l0_1 l0_2 l0_3 l0_4 a1 = some (r1, r2, r3, r4, r5, r6)) :
    Calls Try.prog 15 #[.agg #[u9000_, u9001_, u9002_, u9003_, u9004_], .int .i64 a1] w fun e w' => e = .returned (.int .i64 r1) ∧ Kd.R Kd.string 9 w' w0.heap.size (fun k_ => ((P0_0_ k_ ∨ P0_1_ k_ ∨ P0_2_ k_ ∨ P0_3_ k_ ∨ P0_4_ k_) ∨ w.heap.size ≤ k_)) u9000_ r2 ∧ Kd.R Kd.string 9 w' w0.heap.size (fun k_ => ((P0_0_ k_ ∨ P0_1_ k_ ∨ P0_2_ k_ ∨ P0_3_ k_ ∨ P0_4_ k_) ∨ w.heap.size ≤ k_)) u9001_ r3 ∧ Kd.R (Kd.int .i64) 3 w' w0.heap.size (fun k_ => ((P0_0_ k_ ∨ P0_1_ k_ ∨ P0_2_ k_ ∨ P0_3_ k_ ∨ P0_4_ k_) ∨ w.heap.size ≤ k_)) u9002_ r4 ∧ Kd.R (Kd.int .i64) 3 w' w0.heap.size (fun k_ => ((P0_0_ k_ ∨ P0_1_ k_ ∨ P0_2_ k_ ∨ P0_3_ k_ ∨ P0_4_ k_) ∨ w.heap.size ≤ k_)) u9003_ r5 ∧ Kd.R (Kd.int .i64) 3 w' w0.heap.size (fun k_ => ((P0_0_ k_ ∨ P0_1_ k_ ∨ P0_2_ k_ ∨ P0_3_ k_ ∨ P0_4_ k_) ∨ w.heap.size ≤ k_)) u9004_ r6 ∧ Below w0.heap.size w0 w' ∧ Kept w w' (fun k_ => P0_0_ k_ ∨ P0_1_ k_ ∨ P0_2_ k_ ∨ P0_3_ k_ ∨ P0_4_ k_) := by
  have hu25 := Try.underlying25
  have HO0_0 := Aside0.mk (show Kd.R Kd.string 9 w w0.heap.size (fun k_ => ((P0_0_ k_ ∨ P0_1_ k_ ∨ P0_2_ k_ ∨ P0_3_ k_ ∨ P0_4_ k_) ∨ w.heap.size ≤ k_) ∧ some k_ ≠ (u9001_ : Value).ownBlock) u9000_ l0_0 from Kd.R_mono ho0_0 (fun k_ hk => ⟨(.inl (.inl hk)), fun e_ => hp0_0_0_1 k_ hk (ho0_1.1 k_ e_.symm)⟩))
  have HO0_1 := Aside0.mk (show Kd.R Kd.string 9 w w0.heap.size (fun k_ => ((P0_0_ k_ ∨ P0_1_ k_ ∨ P0_2_ k_ ∨ P0_3_ k_ ∨ P0_4_ k_) ∨ w.heap.size ≤ k_) ∧ some k_ ≠ (u9000_ : Value).ownBlock) u9001_ l0_1 from Kd.R_mono ho0_1 (fun k_ hk => ⟨(.inl (.inr (.inl hk))), fun e_ => hp0_1_0_0 k_ hk (ho0_0.1 k_ e_.symm)⟩))
  have HO0_2 := Aside0.mk (show Kd.R (Kd.int .i64) 3 w w0.heap.size (fun k_ => ((P0_0_ k_ ∨ P0_1_ k_ ∨ P0_2_ k_ ∨ P0_3_ k_ ∨ P0_4_ k_) ∨ w.heap.size ≤ k_) ∧ some k_ ≠ (u9003_ : Value).ownBlock ∧ some k_ ≠ (u9004_ : Value).ownBlock) u9002_ l0_2 from Kd.R_mono ho0_2 (fun k_ hk => ⟨(.inl (.inr (.inr (.inl hk)))), fun e_ => hp0_2_0_3 k_ hk (ho0_3.1 k_ e_.symm), fun e_ => hp0_2_0_4 k_ hk (ho0_4.1 k_ e_.symm)⟩))
  have HO0_3 := Aside0.mk (show Kd.R (Kd.int .i64) 3 w w0.heap.size (fun k_ => ((P0_0_ k_ ∨ P0_1_ k_ ∨ P0_2_ k_ ∨ P0_3_ k_ ∨ P0_4_ k_) ∨ w.heap.size ≤ k_) ∧ some k_ ≠ (u9002_ : Value).ownBlock ∧ some k_ ≠ (u9004_ : Value).ownBlock) u9003_ l0_3 from Kd.R_mono ho0_3 (fun k_ hk => ⟨(.inl (.inr (.inr (.inr (.inl hk))))), fun e_ => hp0_3_0_2 k_ hk (ho0_2.1 k_ e_.symm), fun e_ => hp0_3_0_4 k_ hk (ho0_4.1 k_ e_.symm)⟩))
  have HO0_4 := Aside0.mk (show Kd.R (Kd.int .i64) 3 w w0.heap.size (fun k_ => ((P0_0_ k_ ∨ P0_1_ k_ ∨ P0_2_ k_ ∨ P0_3_ k_ ∨ P0_4_ k_) ∨ w.heap.size ≤ k_) ∧ some k_ ≠ (u9002_ : Value).ownBlock ∧ some k_ ≠ (u9003_ : Value).ownBlock) u9004_ l0_4 from Kd.R_mono ho0_4 (fun k_ hk => ⟨(.inl (.inr (.inr (.inr (.inr hk))))), fun e_ => hp0_4_0_2 k_ hk (ho0_2.1 k_ e_.symm), fun e_ => hp0_4_0_3 k_ hk (ho0_3.1 k_ e_.symm)⟩))
  have HK := Aside0.mk (Kept.refl w (fun k_ => P0_0_ k_ ∨ P0_1_ k_ ∨ P0_2_ k_ ∨ P0_3_ k_ ∨ P0_4_ k_))
  have HW0 := Aside0.mk hB.size
  have HB := Aside0.mk hB
  clear hB
  have H : ((laws_markStringS.f k l0_0 a1).bind fun bt151 => ((laws_markStringS.f k l0_1 bt151.1).bind fun bt153 => ((laws_markIntS.f k l0_2 bt153.1).bind fun bt155 => ((laws_markIntS.f k l0_3 bt155.1).bind fun bt157 => ((laws_markIntS.f k l0_4 bt157.1).bind fun bt159 => (some (bt159.1, bt151.2, bt153.2, bt155.2, bt157.2, bt159.2))))))) = some (r1, r2, r3, r4, r5, r6) := h
  clear h
  replace H := Option.bind_eq_some_iff.mp H
  obtain ⟨⟨t151, t152⟩, A30, H⟩ := H
  replace H : ((laws_markStringS.f k l0_1 t151).bind fun bt153 => ((laws_markIntS.f k l0_2 bt153.1).bind fun bt155 => ((laws_markIntS.f k l0_3 bt155.1).bind fun bt157 => ((laws_markIntS.f k l0_4 bt157.1).bind fun bt159 => (some (bt159.1, t152, bt153.2, bt155.2, bt157.2, bt159.2)))))) = some (r1, r2, r3, r4, r5, r6) := H
  have A3 := Aside0.mk A30
  clear A30
  replace H := Option.bind_eq_some_iff.mp H
  obtain ⟨⟨t153, t154⟩, A40, H⟩ := H
  replace H : ((laws_markIntS.f k l0_2 t153).bind fun bt155 => ((laws_markIntS.f k l0_3 bt155.1).bind fun bt157 => ((laws_markIntS.f k l0_4 bt157.1).bind fun bt159 => (some (bt159.1, t152, t154, bt155.2, bt157.2, bt159.2))))) = some (r1, r2, r3, r4, r5, r6) := H
  have A4 := Aside0.mk A40
  clear A40
  replace H := Option.bind_eq_some_iff.mp H
  obtain ⟨⟨t155, t156⟩, A50, H⟩ := H
  replace H : ((laws_markIntS.f k l0_3 t155).bind fun bt157 => ((laws_markIntS.f k l0_4 bt157.1).bind fun bt159 => (some (bt159.1, t152, t154, t156, bt157.2, bt159.2)))) = some (r1, r2, r3, r4, r5, r6) := H
  have A5 := Aside0.mk A50
  clear A50
  replace H := Option.bind_eq_some_iff.mp H
  obtain ⟨⟨t157, t158⟩, A60, H⟩ := H
  replace H : ((laws_markIntS.f k l0_4 t157).bind fun bt159 => (some (bt159.1, t152, t154, t156, t158, bt159.2))) = some (r1, r2, r3, r4, r5, r6) := H
  have A6 := Aside0.mk A60
  clear A60
  replace H := Option.bind_eq_some_iff.mp H
  obtain ⟨⟨t159, t160⟩, A70, H⟩ := H
  replace H : (some (t159, t152, t154, t156, t158, t160)) = some (r1, r2, r3, r4, r5, r6) := H
  have A7 := Aside0.mk A70
  clear A70
  simp only [Option.some.injEq, Prod.mk.injEq] at H
  obtain ⟨rfl, rfl, rfl, rfl, rfl, rfl⟩ := H
  obtain ⟨Ao8, co8, eo8⟩ := Kd.R_slice HO0_0.out
  subst eo8
  obtain ⟨Ao9, co9, eo9⟩ := Kd.R_slice HO0_1.out
  subst eo9
  obtain ⟨Ao10, co10, eo10⟩ := Kd.R_slice HO0_2.out
  subst eo10
  obtain ⟨Ao11, co11, eo11⟩ := Kd.R_slice HO0_3.out
  subst eo11
  obtain ⟨Ao12, co12, eo12⟩ := Kd.R_slice HO0_4.out
  subst eo12
  go_enter Try.func15, Try.ntmps15
  go_wp2_with (first | ((with_reducible refine gate_dst (N := 2) rfl ?_); refine box_event ?hg (N := 2) ?hd (cs := #[.slice Ao8 l0_0.length co8, .slice Ao9 l0_1.length co9, .slice Ao10 l0_2.length co10, .slice Ao11 l0_3.length co11, .slice Ao12 l0_4.length co12]) (t := 25) ?hr ?_; (case hd => rfl); (case hg => rfl); (case hr => first | (go_simp; done) | (go_simp; rfl)); intro gb150 hg w13 hbox hb; have n0_ := Aside0.mk (Kd.R_below (by (with_reducible repeat (first | apply Kd.R_alloc | apply Kd.R_drewN | apply Kd.R_drew)); exact HO0_0.out) hb); have n1_ := Aside0.mk (Kd.R_below (by (with_reducible repeat (first | apply Kd.R_alloc | apply Kd.R_drewN | apply Kd.R_drew)); exact HO0_1.out) hb); have n2_ := Aside0.mk (Kd.R_below (by (with_reducible repeat (first | apply Kd.R_alloc | apply Kd.R_drewN | apply Kd.R_drew)); exact HO0_2.out) hb); have n3_ := Aside0.mk (Kd.R_below (by (with_reducible repeat (first | apply Kd.R_alloc | apply Kd.R_drewN | apply Kd.R_drew)); exact HO0_3.out) hb); have n4_ := Aside0.mk (Kd.R_below (by (with_reducible repeat (first | apply Kd.R_alloc | apply Kd.R_drewN | apply Kd.R_drew)); exact HO0_4.out) hb); have n5_ := Aside0.mk (Kept.below (S := (fun k_ => P0_0_ k_ ∨ P0_1_ k_ ∨ P0_2_ k_ ∨ P0_3_ k_ ∨ P0_4_ k_)) (by repeat (first | (with_reducible first | exact HK.out | apply Kept.alloc | apply Kept.drewN | apply Kept.drew) | exact HK.out)) hb); have n6_ := Aside0.mk (below_step (by repeat (first | (with_reducible first | exact HB.out | apply below_alloc | apply pw_below_drewN | apply below_drew1) | exact HB.out)) hb); have n7_ := Aside0.mk (hbox); have n8_ := Aside0.mk ((by rw [hg]; exact (by first | exact HK.out.1 | exact (show Kept w _ (fun k_ => P0_0_ k_ ∨ P0_1_ k_ ∨ P0_2_ k_ ∨ P0_3_ k_ ∨ P0_4_ k_) from by repeat (first | (with_reducible first | exact HK.out | apply Kept.alloc | apply Kept.drewN | apply Kept.drew) | exact HK.out)).1) : w.heap.size ≤ gb150)); have n9_ := Aside0.mk ((by rw [hg]; exact (below_size (by repeat (first | (with_reducible first | exact HB.out | apply below_alloc | apply pw_below_drewN | apply below_drew1) | exact HB.out))) : w0.heap.size ≤ gb150)); clear HO0_0; clear HO0_1; clear HO0_2; clear HO0_3; clear HO0_4; clear HK; clear HB; have HO0_0 := n0_; have HO0_1 := n1_; have HO0_2 := n2_; have HO0_3 := n3_; have HO0_4 := n4_; have HK := n5_; have HB := n6_; have BK150 := n7_; have GW150 := n8_; have GE150 := n9_; clear n0_ n1_ n2_ n3_ n4_ n5_ n6_ n7_ n8_ n9_; clear hb hbox hg; have hcz14_0 : w13.cell? ⟨gb150, 0, none⟩ = some (.slice Ao8 l0_0.length co8) := (blk_cell BK150.out 0).trans rfl; have hcz14_1 : w13.cell? ⟨gb150, 1, none⟩ = some (.slice Ao9 l0_1.length co9) := (blk_cell BK150.out 1).trans rfl; have hcz14_2 : w13.cell? ⟨gb150, 2, none⟩ = some (.slice Ao10 l0_2.length co10) := (blk_cell BK150.out 2).trans rfl; have hcz14_3 : w13.cell? ⟨gb150, 3, none⟩ = some (.slice Ao11 l0_3.length co11) := (blk_cell BK150.out 3).trans rfl; have hcz14_4 : w13.cell? ⟨gb150, 4, none⟩ = some (.slice Ao12 l0_4.length co12) := (blk_cell BK150.out 4).trans rfl; have hfz14_0 := blk_frozen BK150.out 0; have hfz14_1 := blk_frozen BK150.out 1; have hfz14_2 := blk_frozen BK150.out 2; have hfz14_3 := blk_frozen BK150.out 3; have hfz14_4 := blk_frozen BK150.out 4) | ((with_reducible refine gate_callee (f := 46) rfl ?_); refine goesL_ (some 8) rfl rfl Try.func46 (by kernel_rfl) rfl #[.slice Ao8 l0_0.length co8, .int .i64 a1] rfl (by (try simp only [List.map_toArray, List.map_cons, List.map_nil]); first | done | rfl | (simp only [List.length_drop, List.length_take]; rfl)) ?_; (with_reducible refine (laws_markStringS.calls k (fun k_ => some k_ = (.slice Ao8 l0_0.length co8 : Value).ownBlock) (.slice Ao8 l0_0.length co8) l0_0 a1 t151 t152 w0 _ ?side1 ?side2 A3.out).mono ?_); (case side1 => repeat (first | (with_reducible first | exact HB.out | apply below_alloc | apply pw_below_drewN | apply below_drew1 | refine below_set ?_ GE150.out) | exact HB.out)); (case side2 => exact Kd.R_tight rfl HO0_0.out); rintro e w15 ⟨rfl, hy0, hb, hkp⟩; refine ⟨_, rfl, ?_⟩; have n0_ := Aside0.mk (Kd.R_reok rfl hy0 (fun k_ e_ => HO0_0.out.1 k_ e_)); have n1_ := Aside0.mk (Kd.R_mono (ok' := fun k_ => ((P0_0_ k_ ∨ P0_1_ k_ ∨ P0_2_ k_ ∨ P0_3_ k_ ∨ P0_4_ k_) ∨ w.heap.size ≤ k_) ∧ some k_ ≠ (.slice Ao8 l0_0.length co8 : Value).ownBlock) (Kd.R_keptB (HO0_1.out) hkp (fun k_ hk_ hs_ => (hk_.2) hs_)) (fun k_ hk_ => ⟨hk_.1.1, hk_.1.2⟩)); have n2_ := Aside0.mk (Kd.R_mono (ok' := fun k_ => ((P0_0_ k_ ∨ P0_1_ k_ ∨ P0_2_ k_ ∨ P0_3_ k_ ∨ P0_4_ k_) ∨ w.heap.size ≤ k_) ∧ some k_ ≠ (.slice Ao11 l0_3.length co11 : Value).ownBlock ∧ some k_ ≠ (.slice Ao12 l0_4.length co12 : Value).ownBlock) (Kd.R_keptB ((Kd.R_apart' HO0_2.out (Kd.R_typed HO0_0.out) (by decide))) hkp (fun k_ hk_ hs_ => (hk_.2) hs_)) (fun k_ hk_ => ⟨hk_.1.1.1, hk_.1.1.2.1, hk_.1.1.2.2⟩)); have n3_ := Aside0.mk (Kd.R_mono (ok' := fun k_ => ((P0_0_ k_ ∨ P0_1_ k_ ∨ P0_2_ k_ ∨ P0_3_ k_ ∨ P0_4_ k_) ∨ w.heap.size ≤ k_) ∧ some k_ ≠ (.slice Ao10 l0_2.length co10 : Value).ownBlock ∧ some k_ ≠ (.slice Ao12 l0_4.length co12 : Value).ownBlock) (Kd.R_keptB ((Kd.R_apart' HO0_3.out (Kd.R_typed HO0_0.out) (by decide))) hkp (fun k_ hk_ hs_ => (hk_.2) hs_)) (fun k_ hk_ => ⟨hk_.1.1.1, hk_.1.1.2.1, hk_.1.1.2.2⟩)); have n4_ := Aside0.mk (Kd.R_mono (ok' := fun k_ => ((P0_0_ k_ ∨ P0_1_ k_ ∨ P0_2_ k_ ∨ P0_3_ k_ ∨ P0_4_ k_) ∨ w.heap.size ≤ k_) ∧ some k_ ≠ (.slice Ao10 l0_2.length co10 : Value).ownBlock ∧ some k_ ≠ (.slice Ao11 l0_3.length co11 : Value).ownBlock) (Kd.R_keptB ((Kd.R_apart' HO0_4.out (Kd.R_typed HO0_0.out) (by decide))) hkp (fun k_ hk_ hs_ => (hk_.2) hs_)) (fun k_ hk_ => ⟨hk_.1.1.1, hk_.1.1.2.1, hk_.1.1.2.2⟩)); have n5_ := Aside0.mk (blk_kept (by (with_reducible repeat (first | refine blk_drewN ?_ _ | refine blk_drew ?_ | refine blk_alloc ?_ _)); exact BK150.out) hkp (fun hs_ => (fun e_ => (Kd.R_ne HO0_0.out BK150.out (by decide)) e_) hs_)); have n6_ := Aside0.mk (Kept.then_ (S := (fun k_ => P0_0_ k_ ∨ P0_1_ k_ ∨ P0_2_ k_ ∨ P0_3_ k_ ∨ P0_4_ k_)) (by repeat (first | (with_reducible first | exact HK.out | apply Kept.alloc | apply Kept.drewN | apply Kept.drew | refine Kept.setCell ?_ (.inr GW150.out) _) | exact HK.out)) hkp (fun k_ hs_ => (fun e_ => (HO0_0.out.1 k_ e_.symm).1) hs_)); have n7_ := Aside0.mk (hb); clear HO0_0; clear HO0_1; clear HO0_2; clear HO0_3; clear HO0_4; clear BK150; clear HK; clear HB; have HO0_0 := n0_; have HO0_1 := n1_; have HO0_2 := n2_; have HO0_3 := n3_; have HO0_4 := n4_; have BK150 := n5_; have HK := n6_; have HB := n7_; clear n0_ n1_ n2_ n3_ n4_ n5_ n6_ n7_; (try clear hb); (try clear hkp); (try clear hy0); have hcz16_0 : w15.cell? ⟨gb150, 0, none⟩ = some (.slice Ao8 l0_0.length co8) := (blk_cell BK150.out 0).trans rfl; have hcz16_1 : w15.cell? ⟨gb150, 1, none⟩ = some (.slice Ao9 l0_1.length co9) := (blk_cell BK150.out 1).trans rfl; have hcz16_2 : w15.cell? ⟨gb150, 2, none⟩ = some (.slice Ao10 l0_2.length co10) := (blk_cell BK150.out 2).trans rfl; have hcz16_3 : w15.cell? ⟨gb150, 3, none⟩ = some (.slice Ao11 l0_3.length co11) := (blk_cell BK150.out 3).trans rfl; have hcz16_4 : w15.cell? ⟨gb150, 4, none⟩ = some (.slice Ao12 l0_4.length co12) := (blk_cell BK150.out 4).trans rfl; have hfz16_0 := blk_frozen BK150.out 0; have hfz16_1 := blk_frozen BK150.out 1; have hfz16_2 := blk_frozen BK150.out 2; have hfz16_3 := blk_frozen BK150.out 3; have hfz16_4 := blk_frozen BK150.out 4) | ((with_reducible refine gate_callee (f := 46) rfl ?_); refine goesL_ (some 12) rfl rfl Try.func46 (by kernel_rfl) rfl #[.slice Ao9 l0_1.length co9, .int .i64 t151] rfl (by (try simp only [List.map_toArray, List.map_cons, List.map_nil]); first | done | rfl | (simp only [List.length_drop, List.length_take]; rfl)) ?_; (with_reducible refine (laws_markStringS.calls k (fun k_ => some k_ = (.slice Ao9 l0_1.length co9 : Value).ownBlock) (.slice Ao9 l0_1.length co9) l0_1 t151 t153 t154 w0 _ ?side1 ?side2 A4.out).mono ?_); (case side1 => repeat (first | (with_reducible first | exact HB.out | apply below_alloc | apply pw_below_drewN | apply below_drew1 | refine below_set ?_ GE150.out) | exact HB.out)); (case side2 => exact Kd.R_tight rfl HO0_1.out); rintro e w17 ⟨rfl, hy0, hb, hkp⟩; refine ⟨_, rfl, ?_⟩; have n0_ := Aside0.mk (Kd.R_mono (ok' := fun k_ => ((P0_0_ k_ ∨ P0_1_ k_ ∨ P0_2_ k_ ∨ P0_3_ k_ ∨ P0_4_ k_) ∨ w.heap.size ≤ k_) ∧ some k_ ≠ (.slice Ao9 l0_1.length co9 : Value).ownBlock) (Kd.R_keptB (HO0_0.out) hkp (fun k_ hk_ hs_ => (hk_.2) hs_)) (fun k_ hk_ => ⟨hk_.1.1, hk_.1.2⟩)); have n1_ := Aside0.mk (Kd.R_reok rfl hy0 (fun k_ e_ => HO0_1.out.1 k_ e_)); have n2_ := Aside0.mk (Kd.R_mono (ok' := fun k_ => ((P0_0_ k_ ∨ P0_1_ k_ ∨ P0_2_ k_ ∨ P0_3_ k_ ∨ P0_4_ k_) ∨ w.heap.size ≤ k_) ∧ some k_ ≠ (.slice Ao11 l0_3.length co11 : Value).ownBlock ∧ some k_ ≠ (.slice Ao12 l0_4.length co12 : Value).ownBlock) (Kd.R_keptB ((Kd.R_apart' HO0_2.out (Kd.R_typed HO0_1.out) (by decide))) hkp (fun k_ hk_ hs_ => (hk_.2) hs_)) (fun k_ hk_ => ⟨hk_.1.1.1, hk_.1.1.2.1, hk_.1.1.2.2⟩)); have n3_ := Aside0.mk (Kd.R_mono (ok' := fun k_ => ((P0_0_ k_ ∨ P0_1_ k_ ∨ P0_2_ k_ ∨ P0_3_ k_ ∨ P0_4_ k_) ∨ w.heap.size ≤ k_) ∧ some k_ ≠ (.slice Ao10 l0_2.length co10 : Value).ownBlock ∧ some k_ ≠ (.slice Ao12 l0_4.length co12 : Value).ownBlock) (Kd.R_keptB ((Kd.R_apart' HO0_3.out (Kd.R_typed HO0_1.out) (by decide))) hkp (fun k_ hk_ hs_ => (hk_.2) hs_)) (fun k_ hk_ => ⟨hk_.1.1.1, hk_.1.1.2.1, hk_.1.1.2.2⟩)); have n4_ := Aside0.mk (Kd.R_mono (ok' := fun k_ => ((P0_0_ k_ ∨ P0_1_ k_ ∨ P0_2_ k_ ∨ P0_3_ k_ ∨ P0_4_ k_) ∨ w.heap.size ≤ k_) ∧ some k_ ≠ (.slice Ao10 l0_2.length co10 : Value).ownBlock ∧ some k_ ≠ (.slice Ao11 l0_3.length co11 : Value).ownBlock) (Kd.R_keptB ((Kd.R_apart' HO0_4.out (Kd.R_typed HO0_1.out) (by decide))) hkp (fun k_ hk_ hs_ => (hk_.2) hs_)) (fun k_ hk_ => ⟨hk_.1.1.1, hk_.1.1.2.1, hk_.1.1.2.2⟩)); have n5_ := Aside0.mk (blk_kept (by (with_reducible repeat (first | refine blk_drewN ?_ _ | refine blk_drew ?_ | refine blk_alloc ?_ _)); exact BK150.out) hkp (fun hs_ => (fun e_ => (Kd.R_ne HO0_1.out BK150.out (by decide)) e_) hs_)); have n6_ := Aside0.mk (Kept.then_ (S := (fun k_ => P0_0_ k_ ∨ P0_1_ k_ ∨ P0_2_ k_ ∨ P0_3_ k_ ∨ P0_4_ k_)) (by repeat (first | (with_reducible first | exact HK.out | apply Kept.alloc | apply Kept.drewN | apply Kept.drew | refine Kept.setCell ?_ (.inr GW150.out) _) | exact HK.out)) hkp (fun k_ hs_ => (fun e_ => (HO0_1.out.1 k_ e_.symm).1) hs_)); have n7_ := Aside0.mk (hb); clear HO0_0; clear HO0_1; clear HO0_2; clear HO0_3; clear HO0_4; clear BK150; clear HK; clear HB; have HO0_0 := n0_; have HO0_1 := n1_; have HO0_2 := n2_; have HO0_3 := n3_; have HO0_4 := n4_; have BK150 := n5_; have HK := n6_; have HB := n7_; clear n0_ n1_ n2_ n3_ n4_ n5_ n6_ n7_; (try clear hb); (try clear hkp); (try clear hy0); have hcz18_0 : w17.cell? ⟨gb150, 0, none⟩ = some (.slice Ao8 l0_0.length co8) := (blk_cell BK150.out 0).trans rfl; have hcz18_1 : w17.cell? ⟨gb150, 1, none⟩ = some (.slice Ao9 l0_1.length co9) := (blk_cell BK150.out 1).trans rfl; have hcz18_2 : w17.cell? ⟨gb150, 2, none⟩ = some (.slice Ao10 l0_2.length co10) := (blk_cell BK150.out 2).trans rfl; have hcz18_3 : w17.cell? ⟨gb150, 3, none⟩ = some (.slice Ao11 l0_3.length co11) := (blk_cell BK150.out 3).trans rfl; have hcz18_4 : w17.cell? ⟨gb150, 4, none⟩ = some (.slice Ao12 l0_4.length co12) := (blk_cell BK150.out 4).trans rfl; have hfz18_0 := blk_frozen BK150.out 0; have hfz18_1 := blk_frozen BK150.out 1; have hfz18_2 := blk_frozen BK150.out 2; have hfz18_3 := blk_frozen BK150.out 3; have hfz18_4 := blk_frozen BK150.out 4) | ((with_reducible refine gate_callee (f := 39) rfl ?_); refine goesL_ (some 16) rfl rfl Try.func39 (by kernel_rfl) rfl #[.slice Ao10 l0_2.length co10, .int .i64 t153] rfl (by (try simp only [List.map_toArray, List.map_cons, List.map_nil]); first | done | rfl | (simp only [List.length_drop, List.length_take]; rfl)) ?_; (with_reducible refine (laws_markIntS.calls k (fun k_ => some k_ = (.slice Ao10 l0_2.length co10 : Value).ownBlock) (.slice Ao10 l0_2.length co10) l0_2 t153 t155 t156 w0 _ ?side1 ?side2 A5.out).mono ?_); (case side1 => repeat (first | (with_reducible first | exact HB.out | apply below_alloc | apply pw_below_drewN | apply below_drew1 | refine below_set ?_ GE150.out) | exact HB.out)); (case side2 => exact Kd.R_tight rfl HO0_2.out); rintro e w19 ⟨rfl, hy0, hb, hkp⟩; refine ⟨_, rfl, ?_⟩; have n0_ := Aside0.mk (Kd.R_mono (ok' := fun k_ => ((P0_0_ k_ ∨ P0_1_ k_ ∨ P0_2_ k_ ∨ P0_3_ k_ ∨ P0_4_ k_) ∨ w.heap.size ≤ k_) ∧ some k_ ≠ (.slice Ao9 l0_1.length co9 : Value).ownBlock) (Kd.R_keptB ((Kd.R_apart' HO0_0.out (Kd.R_typed HO0_2.out) (by decide))) hkp (fun k_ hk_ hs_ => (hk_.2) hs_)) (fun k_ hk_ => ⟨hk_.1.1.1, hk_.1.1.2⟩)); have n1_ := Aside0.mk (Kd.R_mono (ok' := fun k_ => ((P0_0_ k_ ∨ P0_1_ k_ ∨ P0_2_ k_ ∨ P0_3_ k_ ∨ P0_4_ k_) ∨ w.heap.size ≤ k_) ∧ some k_ ≠ (.slice Ao8 l0_0.length co8 : Value).ownBlock) (Kd.R_keptB ((Kd.R_apart' HO0_1.out (Kd.R_typed HO0_2.out) (by decide))) hkp (fun k_ hk_ hs_ => (hk_.2) hs_)) (fun k_ hk_ => ⟨hk_.1.1.1, hk_.1.1.2⟩)); have n2_ := Aside0.mk (Kd.R_reok rfl hy0 (fun k_ e_ => HO0_2.out.1 k_ e_)); have n3_ := Aside0.mk (Kd.R_mono (ok' := fun k_ => ((P0_0_ k_ ∨ P0_1_ k_ ∨ P0_2_ k_ ∨ P0_3_ k_ ∨ P0_4_ k_) ∨ w.heap.size ≤ k_) ∧ some k_ ≠ (.slice Ao10 l0_2.length co10 : Value).ownBlock ∧ some k_ ≠ (.slice Ao12 l0_4.length co12 : Value).ownBlock) (Kd.R_keptB (HO0_3.out) hkp (fun k_ hk_ hs_ => (hk_.2.1) hs_)) (fun k_ hk_ => ⟨hk_.1.1, hk_.1.2.1, hk_.1.2.2⟩)); have n4_ := Aside0.mk (Kd.R_mono (ok' := fun k_ => ((P0_0_ k_ ∨ P0_1_ k_ ∨ P0_2_ k_ ∨ P0_3_ k_ ∨ P0_4_ k_) ∨ w.heap.size ≤ k_) ∧ some k_ ≠ (.slice Ao10 l0_2.length co10 : Value).ownBlock ∧ some k_ ≠ (.slice Ao11 l0_3.length co11 : Value).ownBlock) (Kd.R_keptB (HO0_4.out) hkp (fun k_ hk_ hs_ => (hk_.2.1) hs_)) (fun k_ hk_ => ⟨hk_.1.1, hk_.1.2.1, hk_.1.2.2⟩)); have n5_ := Aside0.mk (blk_kept (by (with_reducible repeat (first | refine blk_drewN ?_ _ | refine blk_drew ?_ | refine blk_alloc ?_ _)); exact BK150.out) hkp (fun hs_ => (fun e_ => (Kd.R_ne HO0_2.out BK150.out (by decide)) e_) hs_)); have n6_ := Aside0.mk (Kept.then_ (S := (fun k_ => P0_0_ k_ ∨ P0_1_ k_ ∨ P0_2_ k_ ∨ P0_3_ k_ ∨ P0_4_ k_)) (by repeat (first | (with_reducible first | exact HK.out | apply Kept.alloc | apply Kept.drewN | apply Kept.drew | refine Kept.setCell ?_ (.inr GW150.out) _) | exact HK.out)) hkp (fun k_ hs_ => (fun e_ => (HO0_2.out.1 k_ e_.symm).1) hs_)); have n7_ := Aside0.mk (hb); clear HO0_0; clear HO0_1; clear HO0_2; clear HO0_3; clear HO0_4; clear BK150; clear HK; clear HB; have HO0_0 := n0_; have HO0_1 := n1_; have HO0_2 := n2_; have HO0_3 := n3_; have HO0_4 := n4_; have BK150 := n5_; have HK := n6_; have HB := n7_; clear n0_ n1_ n2_ n3_ n4_ n5_ n6_ n7_; (try clear hb); (try clear hkp); (try clear hy0); have hcz20_0 : w19.cell? ⟨gb150, 0, none⟩ = some (.slice Ao8 l0_0.length co8) := (blk_cell BK150.out 0).trans rfl; have hcz20_1 : w19.cell? ⟨gb150, 1, none⟩ = some (.slice Ao9 l0_1.length co9) := (blk_cell BK150.out 1).trans rfl; have hcz20_2 : w19.cell? ⟨gb150, 2, none⟩ = some (.slice Ao10 l0_2.length co10) := (blk_cell BK150.out 2).trans rfl; have hcz20_3 : w19.cell? ⟨gb150, 3, none⟩ = some (.slice Ao11 l0_3.length co11) := (blk_cell BK150.out 3).trans rfl; have hcz20_4 : w19.cell? ⟨gb150, 4, none⟩ = some (.slice Ao12 l0_4.length co12) := (blk_cell BK150.out 4).trans rfl; have hfz20_0 := blk_frozen BK150.out 0; have hfz20_1 := blk_frozen BK150.out 1; have hfz20_2 := blk_frozen BK150.out 2; have hfz20_3 := blk_frozen BK150.out 3; have hfz20_4 := blk_frozen BK150.out 4) | ((with_reducible refine gate_callee (f := 39) rfl ?_); refine goesL_ (some 20) rfl rfl Try.func39 (by kernel_rfl) rfl #[.slice Ao11 l0_3.length co11, .int .i64 t155] rfl (by (try simp only [List.map_toArray, List.map_cons, List.map_nil]); first | done | rfl | (simp only [List.length_drop, List.length_take]; rfl)) ?_; (with_reducible refine (laws_markIntS.calls k (fun k_ => some k_ = (.slice Ao11 l0_3.length co11 : Value).ownBlock) (.slice Ao11 l0_3.length co11) l0_3 t155 t157 t158 w0 _ ?side1 ?side2 A6.out).mono ?_); (case side1 => repeat (first | (with_reducible first | exact HB.out | apply below_alloc | apply pw_below_drewN | apply below_drew1 | refine below_set ?_ GE150.out) | exact HB.out)); (case side2 => exact Kd.R_tight rfl HO0_3.out); rintro e w21 ⟨rfl, hy0, hb, hkp⟩; refine ⟨_, rfl, ?_⟩; have n0_ := Aside0.mk (Kd.R_mono (ok' := fun k_ => ((P0_0_ k_ ∨ P0_1_ k_ ∨ P0_2_ k_ ∨ P0_3_ k_ ∨ P0_4_ k_) ∨ w.heap.size ≤ k_) ∧ some k_ ≠ (.slice Ao9 l0_1.length co9 : Value).ownBlock) (Kd.R_keptB ((Kd.R_apart' HO0_0.out (Kd.R_typed HO0_3.out) (by decide))) hkp (fun k_ hk_ hs_ => (hk_.2) hs_)) (fun k_ hk_ => ⟨hk_.1.1.1, hk_.1.1.2⟩)); have n1_ := Aside0.mk (Kd.R_mono (ok' := fun k_ => ((P0_0_ k_ ∨ P0_1_ k_ ∨ P0_2_ k_ ∨ P0_3_ k_ ∨ P0_4_ k_) ∨ w.heap.size ≤ k_) ∧ some k_ ≠ (.slice Ao8 l0_0.length co8 : Value).ownBlock) (Kd.R_keptB ((Kd.R_apart' HO0_1.out (Kd.R_typed HO0_3.out) (by decide))) hkp (fun k_ hk_ hs_ => (hk_.2) hs_)) (fun k_ hk_ => ⟨hk_.1.1.1, hk_.1.1.2⟩)); have n2_ := Aside0.mk (Kd.R_mono (ok' := fun k_ => ((P0_0_ k_ ∨ P0_1_ k_ ∨ P0_2_ k_ ∨ P0_3_ k_ ∨ P0_4_ k_) ∨ w.heap.size ≤ k_) ∧ some k_ ≠ (.slice Ao11 l0_3.length co11 : Value).ownBlock ∧ some k_ ≠ (.slice Ao12 l0_4.length co12 : Value).ownBlock) (Kd.R_keptB (HO0_2.out) hkp (fun k_ hk_ hs_ => (hk_.2.1) hs_)) (fun k_ hk_ => ⟨hk_.1.1, hk_.1.2.1, hk_.1.2.2⟩)); have n3_ := Aside0.mk (Kd.R_reok rfl hy0 (fun k_ e_ => HO0_3.out.1 k_ e_)); have n4_ := Aside0.mk (Kd.R_mono (ok' := fun k_ => ((P0_0_ k_ ∨ P0_1_ k_ ∨ P0_2_ k_ ∨ P0_3_ k_ ∨ P0_4_ k_) ∨ w.heap.size ≤ k_) ∧ some k_ ≠ (.slice Ao10 l0_2.length co10 : Value).ownBlock ∧ some k_ ≠ (.slice Ao11 l0_3.length co11 : Value).ownBlock) (Kd.R_keptB (HO0_4.out) hkp (fun k_ hk_ hs_ => (hk_.2.2) hs_)) (fun k_ hk_ => ⟨hk_.1.1, hk_.1.2.1, hk_.1.2.2⟩)); have n5_ := Aside0.mk (blk_kept (by (with_reducible repeat (first | refine blk_drewN ?_ _ | refine blk_drew ?_ | refine blk_alloc ?_ _)); exact BK150.out) hkp (fun hs_ => (fun e_ => (Kd.R_ne HO0_3.out BK150.out (by decide)) e_) hs_)); have n6_ := Aside0.mk (Kept.then_ (S := (fun k_ => P0_0_ k_ ∨ P0_1_ k_ ∨ P0_2_ k_ ∨ P0_3_ k_ ∨ P0_4_ k_)) (by repeat (first | (with_reducible first | exact HK.out | apply Kept.alloc | apply Kept.drewN | apply Kept.drew | refine Kept.setCell ?_ (.inr GW150.out) _) | exact HK.out)) hkp (fun k_ hs_ => (fun e_ => (HO0_3.out.1 k_ e_.symm).1) hs_)); have n7_ := Aside0.mk (hb); clear HO0_0; clear HO0_1; clear HO0_2; clear HO0_3; clear HO0_4; clear BK150; clear HK; clear HB; have HO0_0 := n0_; have HO0_1 := n1_; have HO0_2 := n2_; have HO0_3 := n3_; have HO0_4 := n4_; have BK150 := n5_; have HK := n6_; have HB := n7_; clear n0_ n1_ n2_ n3_ n4_ n5_ n6_ n7_; (try clear hb); (try clear hkp); (try clear hy0); have hcz22_0 : w21.cell? ⟨gb150, 0, none⟩ = some (.slice Ao8 l0_0.length co8) := (blk_cell BK150.out 0).trans rfl; have hcz22_1 : w21.cell? ⟨gb150, 1, none⟩ = some (.slice Ao9 l0_1.length co9) := (blk_cell BK150.out 1).trans rfl; have hcz22_2 : w21.cell? ⟨gb150, 2, none⟩ = some (.slice Ao10 l0_2.length co10) := (blk_cell BK150.out 2).trans rfl; have hcz22_3 : w21.cell? ⟨gb150, 3, none⟩ = some (.slice Ao11 l0_3.length co11) := (blk_cell BK150.out 3).trans rfl; have hcz22_4 : w21.cell? ⟨gb150, 4, none⟩ = some (.slice Ao12 l0_4.length co12) := (blk_cell BK150.out 4).trans rfl; have hfz22_0 := blk_frozen BK150.out 0; have hfz22_1 := blk_frozen BK150.out 1; have hfz22_2 := blk_frozen BK150.out 2; have hfz22_3 := blk_frozen BK150.out 3; have hfz22_4 := blk_frozen BK150.out 4) | ((with_reducible refine gate_callee (f := 39) rfl ?_); refine goesL_ (some 24) rfl rfl Try.func39 (by kernel_rfl) rfl #[.slice Ao12 l0_4.length co12, .int .i64 t157] rfl (by (try simp only [List.map_toArray, List.map_cons, List.map_nil]); first | done | rfl | (simp only [List.length_drop, List.length_take]; rfl)) ?_; (with_reducible refine (laws_markIntS.calls k (fun k_ => some k_ = (.slice Ao12 l0_4.length co12 : Value).ownBlock) (.slice Ao12 l0_4.length co12) l0_4 t157 t159 t160 w0 _ ?side1 ?side2 A7.out).mono ?_); (case side1 => repeat (first | (with_reducible first | exact HB.out | apply below_alloc | apply pw_below_drewN | apply below_drew1 | refine below_set ?_ GE150.out) | exact HB.out)); (case side2 => exact Kd.R_tight rfl HO0_4.out); rintro e w23 ⟨rfl, hy0, hb, hkp⟩; refine ⟨_, rfl, ?_⟩; have n0_ := Aside0.mk (Kd.R_mono (ok' := fun k_ => ((P0_0_ k_ ∨ P0_1_ k_ ∨ P0_2_ k_ ∨ P0_3_ k_ ∨ P0_4_ k_) ∨ w.heap.size ≤ k_) ∧ some k_ ≠ (.slice Ao9 l0_1.length co9 : Value).ownBlock) (Kd.R_keptB ((Kd.R_apart' HO0_0.out (Kd.R_typed HO0_4.out) (by decide))) hkp (fun k_ hk_ hs_ => (hk_.2) hs_)) (fun k_ hk_ => ⟨hk_.1.1.1, hk_.1.1.2⟩)); have n1_ := Aside0.mk (Kd.R_mono (ok' := fun k_ => ((P0_0_ k_ ∨ P0_1_ k_ ∨ P0_2_ k_ ∨ P0_3_ k_ ∨ P0_4_ k_) ∨ w.heap.size ≤ k_) ∧ some k_ ≠ (.slice Ao8 l0_0.length co8 : Value).ownBlock) (Kd.R_keptB ((Kd.R_apart' HO0_1.out (Kd.R_typed HO0_4.out) (by decide))) hkp (fun k_ hk_ hs_ => (hk_.2) hs_)) (fun k_ hk_ => ⟨hk_.1.1.1, hk_.1.1.2⟩)); have n2_ := Aside0.mk (Kd.R_mono (ok' := fun k_ => ((P0_0_ k_ ∨ P0_1_ k_ ∨ P0_2_ k_ ∨ P0_3_ k_ ∨ P0_4_ k_) ∨ w.heap.size ≤ k_) ∧ some k_ ≠ (.slice Ao11 l0_3.length co11 : Value).ownBlock ∧ some k_ ≠ (.slice Ao12 l0_4.length co12 : Value).ownBlock) (Kd.R_keptB (HO0_2.out) hkp (fun k_ hk_ hs_ => (hk_.2.2) hs_)) (fun k_ hk_ => ⟨hk_.1.1, hk_.1.2.1, hk_.1.2.2⟩)); have n3_ := Aside0.mk (Kd.R_mono (ok' := fun k_ => ((P0_0_ k_ ∨ P0_1_ k_ ∨ P0_2_ k_ ∨ P0_3_ k_ ∨ P0_4_ k_) ∨ w.heap.size ≤ k_) ∧ some k_ ≠ (.slice Ao10 l0_2.length co10 : Value).ownBlock ∧ some k_ ≠ (.slice Ao12 l0_4.length co12 : Value).ownBlock) (Kd.R_keptB (HO0_3.out) hkp (fun k_ hk_ hs_ => (hk_.2.2) hs_)) (fun k_ hk_ => ⟨hk_.1.1, hk_.1.2.1, hk_.1.2.2⟩)); have n4_ := Aside0.mk (Kd.R_reok rfl hy0 (fun k_ e_ => HO0_4.out.1 k_ e_)); have n5_ := Aside0.mk (blk_kept (by (with_reducible repeat (first | refine blk_drewN ?_ _ | refine blk_drew ?_ | refine blk_alloc ?_ _)); exact BK150.out) hkp (fun hs_ => (fun e_ => (Kd.R_ne HO0_4.out BK150.out (by decide)) e_) hs_)); have n6_ := Aside0.mk (Kept.then_ (S := (fun k_ => P0_0_ k_ ∨ P0_1_ k_ ∨ P0_2_ k_ ∨ P0_3_ k_ ∨ P0_4_ k_)) (by repeat (first | (with_reducible first | exact HK.out | apply Kept.alloc | apply Kept.drewN | apply Kept.drew | refine Kept.setCell ?_ (.inr GW150.out) _) | exact HK.out)) hkp (fun k_ hs_ => (fun e_ => (HO0_4.out.1 k_ e_.symm).1) hs_)); have n7_ := Aside0.mk (hb); clear HO0_0; clear HO0_1; clear HO0_2; clear HO0_3; clear HO0_4; clear BK150; clear HK; clear HB; have HO0_0 := n0_; have HO0_1 := n1_; have HO0_2 := n2_; have HO0_3 := n3_; have HO0_4 := n4_; have BK150 := n5_; have HK := n6_; have HB := n7_; clear n0_ n1_ n2_ n3_ n4_ n5_ n6_ n7_; (try clear hb); (try clear hkp); (try clear hy0)))
  go_ret
  exact ⟨by first | rfl | (simp [errW_none, errW_some] <;> rfl) | (simp [*, errW_none, errW_some] <;> rfl), by (with_reducible repeat (first | apply Kd.R_alloc | apply Kd.R_drewN | apply Kd.R_drew)); exact Kd.R_mono HO0_0.out (fun _ hk => hk.1), by (with_reducible repeat (first | apply Kd.R_alloc | apply Kd.R_drewN | apply Kd.R_drew)); exact Kd.R_mono HO0_1.out (fun _ hk => hk.1), by (with_reducible repeat (first | apply Kd.R_alloc | apply Kd.R_drewN | apply Kd.R_drew)); exact Kd.R_mono HO0_2.out (fun _ hk => hk.1), by (with_reducible repeat (first | apply Kd.R_alloc | apply Kd.R_drewN | apply Kd.R_drew)); exact Kd.R_mono HO0_3.out (fun _ hk => hk.1), by (with_reducible repeat (first | apply Kd.R_alloc | apply Kd.R_drewN | apply Kd.R_drew)); exact Kd.R_mono HO0_4.out (fun _ hk => hk.1), by repeat (first | (with_reducible first | exact HB.out | apply below_alloc | apply pw_below_drewN | apply below_drew1 | refine below_set ?_ GE150.out) | exact HB.out), by repeat (first | (with_reducible first | exact HK.out | apply Kept.alloc | apply Kept.drewN | apply Kept.drew | refine Kept.setCell ?_ (.inr GW150.out) _) | exact HK.out)⟩
end Go.Proofs.Ytolmblfffnnabaa.P
namespace Go.Proofs.Ytolmblfffnnabaa.P
open Go.RowKit Go.Proofs.YtolmblfffnnabaaW.PrintWords Go.Proofs.YtolmblfffnnabaaW.PrintLast Go.Proofs.YtolmblfffnnabaaW.PrintMore
attribute [local go_sem] max2_int min2_int max_two min_two max_three min_three max_four min_four   
set_option linter.unusedVariables false
set_option linter.unusedSimpArgs false
def laws_heldStore.f (k : Nat) (l0_0 : List ByteArray) (l0_1 : List ByteArray) (l0_2 : List Int) (l0_3 : List Int) (l0_4 : List Int) (a1 : Int) : Option (Int) := (laws_heldStringS.f k l0_0 a1).bind fun t165 => (if t165 < 0 then (some (-1)) else ((laws_heldStringS.f k l0_1 t165).bind fun t166 => (if t166 < 0 then (some (-1)) else ((laws_heldIntS.f k l0_2 t166).bind fun t167 => (if t167 < 0 then (some (-1)) else ((laws_heldIntS.f k l0_3 t167).bind fun t168 => (if t168 < 0 then (some (-1)) else ((laws_heldIntS.f k l0_4 t168).bind fun t169 => (if t169 < 0 then (some (-1)) else (some t169))))))))))
theorem laws_heldStore.mono : ∀ a0 a1 a2 a3 a4 a5 k, LeO (laws_heldStore.f k a0 a1 a2 a3 a4 a5) (laws_heldStore.f (k + 1) a0 a1 a2 a3 a4 a5) := by
  intro a0 a1 a2 a3 a4 a5 k
  unfold laws_heldStore.f
  repeat' first
      | (with_reducible exact laws_heldIntS.mono _ _ _)
      | (with_reducible exact laws_heldStringS.mono _ _ _)
      | (with_reducible exact LeO.refl _)
      | (with_reducible exact LeO.none _)
      | (with_reducible refine LeO.ite ?_ ?_)
      | (with_reducible refine LeO.bind ?_ (fun _ => ?_))
      | exact laws_heldIntS.mono _ _ _
      | exact laws_heldStringS.mono _ _ _
      | exact LeO.none _
      | refine LeO.ite ?_ ?_
      | refine LeO.bind ?_ (fun _ => ?_)
set_option maxHeartbeats 8000000 in
set_option maxRecDepth 100000 in
theorem laws_heldStore.calls (k : Nat) (A0_0 : Option Addr) (c0_0 : Nat) (l0_0 : List ByteArray) (A0_1 : Option Addr) (c0_1 : Nat) (l0_1 : List ByteArray) (A0_2 : Option Addr) (c0_2 : Nat) (l0_2 : List Int) (A0_3 : Option Addr) (c0_3 : Nat) (l0_3 : List Int) (A0_4 : Option Addr) (c0_4 : Nat) (l0_4 : List Int) (a1 : Int) (r : Int) (w : World) (hr0_0 : Kd.C Kd.string w A0_0 l0_0.length l0_0) (hc0_0 : l0_0.length ≤ c0_0) (hr0_1 : Kd.C Kd.string w A0_1 l0_1.length l0_1) (hc0_1 : l0_1.length ≤ c0_1) (hr0_2 : Kd.C (Kd.int .i64) w A0_2 l0_2.length l0_2) (hc0_2 : l0_2.length ≤ c0_2) (hr0_3 : Kd.C (Kd.int .i64) w A0_3 l0_3.length l0_3) (hc0_3 : l0_3.length ≤ c0_3) (hr0_4 : Kd.C (Kd.int .i64) w A0_4 l0_4.length l0_4) (hc0_4 : l0_4.length ≤ c0_4) (h : laws_heldStore.f k l0_0 l0_1 l0_2 l0_3 l0_4 a1 = some r) :
    Calls Try.prog 16 #[.agg #[.slice A0_0 l0_0.length c0_0, .slice A0_1 l0_1.length c0_1, .slice A0_2 l0_2.length c0_2, .slice A0_3 l0_3.length c0_3, .slice A0_4 l0_4.length c0_4], .int .i64 a1] w fun e w' => e = .returned (.int .i64 r) ∧ Below w.heap.size w w' := by
  have hu25 := Try.underlying25
  have HR0_0 := Aside0.mk hr0_0
  have HC0_0 := Aside0.mk hc0_0
  clear hr0_0 hc0_0
  have HR0_1 := Aside0.mk hr0_1
  have HC0_1 := Aside0.mk hc0_1
  clear hr0_1 hc0_1
  have HR0_2 := Aside0.mk hr0_2
  have HC0_2 := Aside0.mk hc0_2
  clear hr0_2 hc0_2
  have HR0_3 := Aside0.mk hr0_3
  have HC0_3 := Aside0.mk hc0_3
  clear hr0_3 hc0_3
  have HR0_4 := Aside0.mk hr0_4
  have HC0_4 := Aside0.mk hc0_4
  clear hr0_4 hc0_4
  have HB := Aside0.mk (Below.refl w.heap.size w)
  have H : ((laws_heldStringS.f k l0_0 a1).bind fun t165 => (if t165 < 0 then (some (-1)) else ((laws_heldStringS.f k l0_1 t165).bind fun t166 => (if t166 < 0 then (some (-1)) else ((laws_heldIntS.f k l0_2 t166).bind fun t167 => (if t167 < 0 then (some (-1)) else ((laws_heldIntS.f k l0_3 t167).bind fun t168 => (if t168 < 0 then (some (-1)) else ((laws_heldIntS.f k l0_4 t168).bind fun t169 => (if t169 < 0 then (some (-1)) else (some t169))))))))))) = some r := h
  clear h
  replace H := Option.bind_eq_some_iff.mp H
  obtain ⟨t165, A30, H⟩ := H
  replace H : (if t165 < 0 then (some (-1)) else ((laws_heldStringS.f k l0_1 t165).bind fun t166 => (if t166 < 0 then (some (-1)) else ((laws_heldIntS.f k l0_2 t166).bind fun t167 => (if t167 < 0 then (some (-1)) else ((laws_heldIntS.f k l0_3 t167).bind fun t168 => (if t168 < 0 then (some (-1)) else ((laws_heldIntS.f k l0_4 t168).bind fun t169 => (if t169 < 0 then (some (-1)) else (some t169)))))))))) = some r := H
  have A3 := Aside0.mk A30
  clear A30
  by_cases c4 : t165 < 0
  · rw [if_pos c4] at H
    have c4b0 : decide (t165 < 0) = true := decide_eq_true c4
    clear c4
    obtain rfl := Option.some.inj H
    go_enter Try.func16, Try.ntmps16
    go_wp2_with (first | ((with_reducible refine gate_dst (N := 2) rfl ?_); refine box_event ?hg (N := 2) ?hd (cs := #[.slice A0_0 l0_0.length c0_0, .slice A0_1 l0_1.length c0_1, .slice A0_2 l0_2.length c0_2, .slice A0_3 l0_3.length c0_3, .slice A0_4 l0_4.length c0_4]) (t := 25) ?hr ?_; (case hd => rfl); (case hg => rfl); (case hr => first | (go_simp; done) | (go_simp; rfl)); intro gb164 hg w5 hbox hb; have n0_ := Aside0.mk (below_step (by repeat (first | (with_reducible first | exact HB.out | apply below_alloc | apply pw_below_drewN | apply below_drew1) | exact HB.out)) hb); have n1_ := Aside0.mk (hbox); have n2_ := Aside0.mk ((by rw [hg]; exact (below_size (by repeat (first | (with_reducible first | exact HB.out | apply below_alloc | apply pw_below_drewN | apply below_drew1) | exact HB.out))) : w.heap.size ≤ gb164)); have n3_ := Aside0.mk ((by rw [hg]; exact (below_size (by repeat (first | (with_reducible first | exact HB.out | apply below_alloc | apply pw_below_drewN | apply below_drew1) | exact HB.out))) : w.heap.size ≤ gb164)); clear HB; have HB := n0_; have BK164 := n1_; have GW164 := n2_; have GE164 := n3_; clear n0_ n1_ n2_ n3_; clear hb hbox hg; have hcz6_0 : w5.cell? ⟨gb164, 0, none⟩ = some (.slice A0_0 l0_0.length c0_0) := (blk_cell BK164.out 0).trans rfl; have hcz6_1 : w5.cell? ⟨gb164, 1, none⟩ = some (.slice A0_1 l0_1.length c0_1) := (blk_cell BK164.out 1).trans rfl; have hcz6_2 : w5.cell? ⟨gb164, 2, none⟩ = some (.slice A0_2 l0_2.length c0_2) := (blk_cell BK164.out 2).trans rfl; have hcz6_3 : w5.cell? ⟨gb164, 3, none⟩ = some (.slice A0_3 l0_3.length c0_3) := (blk_cell BK164.out 3).trans rfl; have hcz6_4 : w5.cell? ⟨gb164, 4, none⟩ = some (.slice A0_4 l0_4.length c0_4) := (blk_cell BK164.out 4).trans rfl; have hfz6_0 := blk_frozen BK164.out 0; have hfz6_1 := blk_frozen BK164.out 1; have hfz6_2 := blk_frozen BK164.out 2; have hfz6_3 := blk_frozen BK164.out 3; have hfz6_4 := blk_frozen BK164.out 4) | ((with_reducible refine gate_callee (f := 47) rfl ?_); refine goesL_ (some 8) rfl rfl Try.func47 (by kernel_rfl) rfl #[.slice A0_0 l0_0.length c0_0, .int .i64 a1] rfl (by (try simp only [List.map_toArray, List.map_cons, List.map_nil]); first | done | rfl | (simp only [List.length_drop, List.length_take]; rfl)) ?_; (with_reducible refine (laws_heldStringS.calls k _ _ l0_0 a1 t165 _ ?side1 ?side2 A3.out).mono ?_); (case side1 => repeat (first | exact (Kd.C_below HR0_0.out HB.out) | (with_reducible refine Kd.C_alloc ?_ _) | (with_reducible refine Kd.C_drewN ?_ _) | (with_reducible refine Kd.C_drew ?_))); (case side2 => exact HC0_0.out); rintro e w7 ⟨rfl, hb⟩; refine ⟨_, rfl, ?_⟩; have n0_ := Aside0.mk (blk_below (g := gb164) (o := .cells #[.slice A0_0 l0_0.length c0_0, .slice A0_1 l0_1.length c0_1, .slice A0_2 l0_2.length c0_2, .slice A0_3 l0_3.length c0_3, .slice A0_4 l0_4.length c0_4] 25 (0, 0)) (by (with_reducible repeat (first | refine blk_drewN ?_ _ | refine blk_drew ?_ | refine blk_alloc ?_ _)); exact BK164.out) hb); have n1_ := Aside0.mk (below_step (by repeat (first | (with_reducible first | exact HB.out | apply below_alloc | apply pw_below_drewN | apply below_drew1 | refine below_set ?_ GE164.out) | exact HB.out)) hb); clear BK164; clear HB; have BK164 := n0_; have HB := n1_; clear n0_ n1_; (try clear hb); (try clear hb2); (try clear hk); (try clear hi)))
    go_ret
    exact ⟨by first | rfl | (simp [errW_none, errW_some] <;> rfl) | (simp [*, errW_none, errW_some] <;> rfl), by repeat (first | (with_reducible first | exact HB.out | apply below_alloc | apply pw_below_drewN | apply below_drew1 | refine below_set ?_ GE164.out) | exact HB.out)⟩
  · rw [if_neg c4] at H
    have c4b0 : decide (t165 < 0) = false := decide_eq_false c4
    clear c4
    replace H := Option.bind_eq_some_iff.mp H
    obtain ⟨t166, A80, H⟩ := H
    replace H : (if t166 < 0 then (some (-1)) else ((laws_heldIntS.f k l0_2 t166).bind fun t167 => (if t167 < 0 then (some (-1)) else ((laws_heldIntS.f k l0_3 t167).bind fun t168 => (if t168 < 0 then (some (-1)) else ((laws_heldIntS.f k l0_4 t168).bind fun t169 => (if t169 < 0 then (some (-1)) else (some t169)))))))) = some r := H
    have A8 := Aside0.mk A80
    clear A80
    by_cases c9 : t166 < 0
    · rw [if_pos c9] at H
      have c9b0 : decide (t166 < 0) = true := decide_eq_true c9
      clear c9
      obtain rfl := Option.some.inj H
      go_enter Try.func16, Try.ntmps16
      go_wp2_with (first | ((with_reducible refine gate_dst (N := 2) rfl ?_); refine box_event ?hg (N := 2) ?hd (cs := #[.slice A0_0 l0_0.length c0_0, .slice A0_1 l0_1.length c0_1, .slice A0_2 l0_2.length c0_2, .slice A0_3 l0_3.length c0_3, .slice A0_4 l0_4.length c0_4]) (t := 25) ?hr ?_; (case hd => rfl); (case hg => rfl); (case hr => first | (go_simp; done) | (go_simp; rfl)); intro gb164 hg w10 hbox hb; have n0_ := Aside0.mk (below_step (by repeat (first | (with_reducible first | exact HB.out | apply below_alloc | apply pw_below_drewN | apply below_drew1) | exact HB.out)) hb); have n1_ := Aside0.mk (hbox); have n2_ := Aside0.mk ((by rw [hg]; exact (below_size (by repeat (first | (with_reducible first | exact HB.out | apply below_alloc | apply pw_below_drewN | apply below_drew1) | exact HB.out))) : w.heap.size ≤ gb164)); have n3_ := Aside0.mk ((by rw [hg]; exact (below_size (by repeat (first | (with_reducible first | exact HB.out | apply below_alloc | apply pw_below_drewN | apply below_drew1) | exact HB.out))) : w.heap.size ≤ gb164)); clear HB; have HB := n0_; have BK164 := n1_; have GW164 := n2_; have GE164 := n3_; clear n0_ n1_ n2_ n3_; clear hb hbox hg; have hcz11_0 : w10.cell? ⟨gb164, 0, none⟩ = some (.slice A0_0 l0_0.length c0_0) := (blk_cell BK164.out 0).trans rfl; have hcz11_1 : w10.cell? ⟨gb164, 1, none⟩ = some (.slice A0_1 l0_1.length c0_1) := (blk_cell BK164.out 1).trans rfl; have hcz11_2 : w10.cell? ⟨gb164, 2, none⟩ = some (.slice A0_2 l0_2.length c0_2) := (blk_cell BK164.out 2).trans rfl; have hcz11_3 : w10.cell? ⟨gb164, 3, none⟩ = some (.slice A0_3 l0_3.length c0_3) := (blk_cell BK164.out 3).trans rfl; have hcz11_4 : w10.cell? ⟨gb164, 4, none⟩ = some (.slice A0_4 l0_4.length c0_4) := (blk_cell BK164.out 4).trans rfl; have hfz11_0 := blk_frozen BK164.out 0; have hfz11_1 := blk_frozen BK164.out 1; have hfz11_2 := blk_frozen BK164.out 2; have hfz11_3 := blk_frozen BK164.out 3; have hfz11_4 := blk_frozen BK164.out 4) | ((with_reducible refine gate_callee (f := 47) rfl ?_); refine goesL_ (some 8) rfl rfl Try.func47 (by kernel_rfl) rfl #[.slice A0_0 l0_0.length c0_0, .int .i64 a1] rfl (by (try simp only [List.map_toArray, List.map_cons, List.map_nil]); first | done | rfl | (simp only [List.length_drop, List.length_take]; rfl)) ?_; (with_reducible refine (laws_heldStringS.calls k _ _ l0_0 a1 t165 _ ?side1 ?side2 A3.out).mono ?_); (case side1 => repeat (first | exact (Kd.C_below HR0_0.out HB.out) | (with_reducible refine Kd.C_alloc ?_ _) | (with_reducible refine Kd.C_drewN ?_ _) | (with_reducible refine Kd.C_drew ?_))); (case side2 => exact HC0_0.out); rintro e w12 ⟨rfl, hb⟩; refine ⟨_, rfl, ?_⟩; have n0_ := Aside0.mk (blk_below (g := gb164) (o := .cells #[.slice A0_0 l0_0.length c0_0, .slice A0_1 l0_1.length c0_1, .slice A0_2 l0_2.length c0_2, .slice A0_3 l0_3.length c0_3, .slice A0_4 l0_4.length c0_4] 25 (0, 0)) (by (with_reducible repeat (first | refine blk_drewN ?_ _ | refine blk_drew ?_ | refine blk_alloc ?_ _)); exact BK164.out) hb); have n1_ := Aside0.mk (below_step (by repeat (first | (with_reducible first | exact HB.out | apply below_alloc | apply pw_below_drewN | apply below_drew1 | refine below_set ?_ GE164.out) | exact HB.out)) hb); clear BK164; clear HB; have BK164 := n0_; have HB := n1_; clear n0_ n1_; (try clear hb); (try clear hb2); (try clear hk); (try clear hi); have hcz13_0 : w12.cell? ⟨gb164, 0, none⟩ = some (.slice A0_0 l0_0.length c0_0) := (blk_cell BK164.out 0).trans rfl; have hcz13_1 : w12.cell? ⟨gb164, 1, none⟩ = some (.slice A0_1 l0_1.length c0_1) := (blk_cell BK164.out 1).trans rfl; have hcz13_2 : w12.cell? ⟨gb164, 2, none⟩ = some (.slice A0_2 l0_2.length c0_2) := (blk_cell BK164.out 2).trans rfl; have hcz13_3 : w12.cell? ⟨gb164, 3, none⟩ = some (.slice A0_3 l0_3.length c0_3) := (blk_cell BK164.out 3).trans rfl; have hcz13_4 : w12.cell? ⟨gb164, 4, none⟩ = some (.slice A0_4 l0_4.length c0_4) := (blk_cell BK164.out 4).trans rfl; have hfz13_0 := blk_frozen BK164.out 0; have hfz13_1 := blk_frozen BK164.out 1; have hfz13_2 := blk_frozen BK164.out 2; have hfz13_3 := blk_frozen BK164.out 3; have hfz13_4 := blk_frozen BK164.out 4) | ((with_reducible refine gate_callee (f := 47) rfl ?_); refine goesL_ (some 14) rfl rfl Try.func47 (by kernel_rfl) rfl #[.slice A0_1 l0_1.length c0_1, .int .i64 t165] rfl (by (try simp only [List.map_toArray, List.map_cons, List.map_nil]); first | done | rfl | (simp only [List.length_drop, List.length_take]; rfl)) ?_; (with_reducible refine (laws_heldStringS.calls k _ _ l0_1 t165 t166 _ ?side1 ?side2 A8.out).mono ?_); (case side1 => repeat (first | exact (Kd.C_below HR0_1.out HB.out) | (with_reducible refine Kd.C_alloc ?_ _) | (with_reducible refine Kd.C_drewN ?_ _) | (with_reducible refine Kd.C_drew ?_))); (case side2 => exact HC0_1.out); rintro e w14 ⟨rfl, hb⟩; refine ⟨_, rfl, ?_⟩; have n0_ := Aside0.mk (blk_below (g := gb164) (o := .cells #[.slice A0_0 l0_0.length c0_0, .slice A0_1 l0_1.length c0_1, .slice A0_2 l0_2.length c0_2, .slice A0_3 l0_3.length c0_3, .slice A0_4 l0_4.length c0_4] 25 (0, 0)) (by (with_reducible repeat (first | refine blk_drewN ?_ _ | refine blk_drew ?_ | refine blk_alloc ?_ _)); exact BK164.out) hb); have n1_ := Aside0.mk (below_step (by repeat (first | (with_reducible first | exact HB.out | apply below_alloc | apply pw_below_drewN | apply below_drew1 | refine below_set ?_ GE164.out) | exact HB.out)) hb); clear BK164; clear HB; have BK164 := n0_; have HB := n1_; clear n0_ n1_; (try clear hb); (try clear hb2); (try clear hk); (try clear hi)))
      go_ret
      exact ⟨by first | rfl | (simp [errW_none, errW_some] <;> rfl) | (simp [*, errW_none, errW_some] <;> rfl), by repeat (first | (with_reducible first | exact HB.out | apply below_alloc | apply pw_below_drewN | apply below_drew1 | refine below_set ?_ GE164.out) | exact HB.out)⟩
    · rw [if_neg c9] at H
      have c9b0 : decide (t166 < 0) = false := decide_eq_false c9
      clear c9
      replace H := Option.bind_eq_some_iff.mp H
      obtain ⟨t167, A150, H⟩ := H
      replace H : (if t167 < 0 then (some (-1)) else ((laws_heldIntS.f k l0_3 t167).bind fun t168 => (if t168 < 0 then (some (-1)) else ((laws_heldIntS.f k l0_4 t168).bind fun t169 => (if t169 < 0 then (some (-1)) else (some t169)))))) = some r := H
      have A15 := Aside0.mk A150
      clear A150
      by_cases c16 : t167 < 0
      · rw [if_pos c16] at H
        have c16b0 : decide (t167 < 0) = true := decide_eq_true c16
        clear c16
        obtain rfl := Option.some.inj H
        go_enter Try.func16, Try.ntmps16
        go_wp2_with (first | ((with_reducible refine gate_dst (N := 2) rfl ?_); refine box_event ?hg (N := 2) ?hd (cs := #[.slice A0_0 l0_0.length c0_0, .slice A0_1 l0_1.length c0_1, .slice A0_2 l0_2.length c0_2, .slice A0_3 l0_3.length c0_3, .slice A0_4 l0_4.length c0_4]) (t := 25) ?hr ?_; (case hd => rfl); (case hg => rfl); (case hr => first | (go_simp; done) | (go_simp; rfl)); intro gb164 hg w17 hbox hb; have n0_ := Aside0.mk (below_step (by repeat (first | (with_reducible first | exact HB.out | apply below_alloc | apply pw_below_drewN | apply below_drew1) | exact HB.out)) hb); have n1_ := Aside0.mk (hbox); have n2_ := Aside0.mk ((by rw [hg]; exact (below_size (by repeat (first | (with_reducible first | exact HB.out | apply below_alloc | apply pw_below_drewN | apply below_drew1) | exact HB.out))) : w.heap.size ≤ gb164)); have n3_ := Aside0.mk ((by rw [hg]; exact (below_size (by repeat (first | (with_reducible first | exact HB.out | apply below_alloc | apply pw_below_drewN | apply below_drew1) | exact HB.out))) : w.heap.size ≤ gb164)); clear HB; have HB := n0_; have BK164 := n1_; have GW164 := n2_; have GE164 := n3_; clear n0_ n1_ n2_ n3_; clear hb hbox hg; have hcz18_0 : w17.cell? ⟨gb164, 0, none⟩ = some (.slice A0_0 l0_0.length c0_0) := (blk_cell BK164.out 0).trans rfl; have hcz18_1 : w17.cell? ⟨gb164, 1, none⟩ = some (.slice A0_1 l0_1.length c0_1) := (blk_cell BK164.out 1).trans rfl; have hcz18_2 : w17.cell? ⟨gb164, 2, none⟩ = some (.slice A0_2 l0_2.length c0_2) := (blk_cell BK164.out 2).trans rfl; have hcz18_3 : w17.cell? ⟨gb164, 3, none⟩ = some (.slice A0_3 l0_3.length c0_3) := (blk_cell BK164.out 3).trans rfl; have hcz18_4 : w17.cell? ⟨gb164, 4, none⟩ = some (.slice A0_4 l0_4.length c0_4) := (blk_cell BK164.out 4).trans rfl; have hfz18_0 := blk_frozen BK164.out 0; have hfz18_1 := blk_frozen BK164.out 1; have hfz18_2 := blk_frozen BK164.out 2; have hfz18_3 := blk_frozen BK164.out 3; have hfz18_4 := blk_frozen BK164.out 4) | ((with_reducible refine gate_callee (f := 47) rfl ?_); refine goesL_ (some 8) rfl rfl Try.func47 (by kernel_rfl) rfl #[.slice A0_0 l0_0.length c0_0, .int .i64 a1] rfl (by (try simp only [List.map_toArray, List.map_cons, List.map_nil]); first | done | rfl | (simp only [List.length_drop, List.length_take]; rfl)) ?_; (with_reducible refine (laws_heldStringS.calls k _ _ l0_0 a1 t165 _ ?side1 ?side2 A3.out).mono ?_); (case side1 => repeat (first | exact (Kd.C_below HR0_0.out HB.out) | (with_reducible refine Kd.C_alloc ?_ _) | (with_reducible refine Kd.C_drewN ?_ _) | (with_reducible refine Kd.C_drew ?_))); (case side2 => exact HC0_0.out); rintro e w19 ⟨rfl, hb⟩; refine ⟨_, rfl, ?_⟩; have n0_ := Aside0.mk (blk_below (g := gb164) (o := .cells #[.slice A0_0 l0_0.length c0_0, .slice A0_1 l0_1.length c0_1, .slice A0_2 l0_2.length c0_2, .slice A0_3 l0_3.length c0_3, .slice A0_4 l0_4.length c0_4] 25 (0, 0)) (by (with_reducible repeat (first | refine blk_drewN ?_ _ | refine blk_drew ?_ | refine blk_alloc ?_ _)); exact BK164.out) hb); have n1_ := Aside0.mk (below_step (by repeat (first | (with_reducible first | exact HB.out | apply below_alloc | apply pw_below_drewN | apply below_drew1 | refine below_set ?_ GE164.out) | exact HB.out)) hb); clear BK164; clear HB; have BK164 := n0_; have HB := n1_; clear n0_ n1_; (try clear hb); (try clear hb2); (try clear hk); (try clear hi); have hcz20_0 : w19.cell? ⟨gb164, 0, none⟩ = some (.slice A0_0 l0_0.length c0_0) := (blk_cell BK164.out 0).trans rfl; have hcz20_1 : w19.cell? ⟨gb164, 1, none⟩ = some (.slice A0_1 l0_1.length c0_1) := (blk_cell BK164.out 1).trans rfl; have hcz20_2 : w19.cell? ⟨gb164, 2, none⟩ = some (.slice A0_2 l0_2.length c0_2) := (blk_cell BK164.out 2).trans rfl; have hcz20_3 : w19.cell? ⟨gb164, 3, none⟩ = some (.slice A0_3 l0_3.length c0_3) := (blk_cell BK164.out 3).trans rfl; have hcz20_4 : w19.cell? ⟨gb164, 4, none⟩ = some (.slice A0_4 l0_4.length c0_4) := (blk_cell BK164.out 4).trans rfl; have hfz20_0 := blk_frozen BK164.out 0; have hfz20_1 := blk_frozen BK164.out 1; have hfz20_2 := blk_frozen BK164.out 2; have hfz20_3 := blk_frozen BK164.out 3; have hfz20_4 := blk_frozen BK164.out 4) | ((with_reducible refine gate_callee (f := 47) rfl ?_); refine goesL_ (some 14) rfl rfl Try.func47 (by kernel_rfl) rfl #[.slice A0_1 l0_1.length c0_1, .int .i64 t165] rfl (by (try simp only [List.map_toArray, List.map_cons, List.map_nil]); first | done | rfl | (simp only [List.length_drop, List.length_take]; rfl)) ?_; (with_reducible refine (laws_heldStringS.calls k _ _ l0_1 t165 t166 _ ?side1 ?side2 A8.out).mono ?_); (case side1 => repeat (first | exact (Kd.C_below HR0_1.out HB.out) | (with_reducible refine Kd.C_alloc ?_ _) | (with_reducible refine Kd.C_drewN ?_ _) | (with_reducible refine Kd.C_drew ?_))); (case side2 => exact HC0_1.out); rintro e w21 ⟨rfl, hb⟩; refine ⟨_, rfl, ?_⟩; have n0_ := Aside0.mk (blk_below (g := gb164) (o := .cells #[.slice A0_0 l0_0.length c0_0, .slice A0_1 l0_1.length c0_1, .slice A0_2 l0_2.length c0_2, .slice A0_3 l0_3.length c0_3, .slice A0_4 l0_4.length c0_4] 25 (0, 0)) (by (with_reducible repeat (first | refine blk_drewN ?_ _ | refine blk_drew ?_ | refine blk_alloc ?_ _)); exact BK164.out) hb); have n1_ := Aside0.mk (below_step (by repeat (first | (with_reducible first | exact HB.out | apply below_alloc | apply pw_below_drewN | apply below_drew1 | refine below_set ?_ GE164.out) | exact HB.out)) hb); clear BK164; clear HB; have BK164 := n0_; have HB := n1_; clear n0_ n1_; (try clear hb); (try clear hb2); (try clear hk); (try clear hi); have hcz22_0 : w21.cell? ⟨gb164, 0, none⟩ = some (.slice A0_0 l0_0.length c0_0) := (blk_cell BK164.out 0).trans rfl; have hcz22_1 : w21.cell? ⟨gb164, 1, none⟩ = some (.slice A0_1 l0_1.length c0_1) := (blk_cell BK164.out 1).trans rfl; have hcz22_2 : w21.cell? ⟨gb164, 2, none⟩ = some (.slice A0_2 l0_2.length c0_2) := (blk_cell BK164.out 2).trans rfl; have hcz22_3 : w21.cell? ⟨gb164, 3, none⟩ = some (.slice A0_3 l0_3.length c0_3) := (blk_cell BK164.out 3).trans rfl; have hcz22_4 : w21.cell? ⟨gb164, 4, none⟩ = some (.slice A0_4 l0_4.length c0_4) := (blk_cell BK164.out 4).trans rfl; have hfz22_0 := blk_frozen BK164.out 0; have hfz22_1 := blk_frozen BK164.out 1; have hfz22_2 := blk_frozen BK164.out 2; have hfz22_3 := blk_frozen BK164.out 3; have hfz22_4 := blk_frozen BK164.out 4) | ((with_reducible refine gate_callee (f := 40) rfl ?_); refine goesL_ (some 20) rfl rfl Try.func40 (by kernel_rfl) rfl #[.slice A0_2 l0_2.length c0_2, .int .i64 t166] rfl (by (try simp only [List.map_toArray, List.map_cons, List.map_nil]); first | done | rfl | (simp only [List.length_drop, List.length_take]; rfl)) ?_; (with_reducible refine (laws_heldIntS.calls k _ _ l0_2 t166 t167 _ ?side1 ?side2 A15.out).mono ?_); (case side1 => repeat (first | exact (Kd.C_below HR0_2.out HB.out) | (with_reducible refine Kd.C_alloc ?_ _) | (with_reducible refine Kd.C_drewN ?_ _) | (with_reducible refine Kd.C_drew ?_))); (case side2 => exact HC0_2.out); rintro e w' ⟨rfl, ⟨nd, rfl⟩⟩; refine ⟨_, rfl, ?_⟩))
        go_ret
        exact ⟨by first | rfl | (simp [errW_none, errW_some] <;> rfl) | (simp [*, errW_none, errW_some] <;> rfl), by repeat (first | (with_reducible first | exact HB.out | apply below_alloc | apply pw_below_drewN | apply below_drew1 | refine below_set ?_ GE164.out) | exact HB.out)⟩
      · rw [if_neg c16] at H
        have c16b0 : decide (t167 < 0) = false := decide_eq_false c16
        clear c16
        replace H := Option.bind_eq_some_iff.mp H
        obtain ⟨t168, A230, H⟩ := H
        replace H : (if t168 < 0 then (some (-1)) else ((laws_heldIntS.f k l0_4 t168).bind fun t169 => (if t169 < 0 then (some (-1)) else (some t169)))) = some r := H
        have A23 := Aside0.mk A230
        clear A230
        by_cases c24 : t168 < 0
        · rw [if_pos c24] at H
          have c24b0 : decide (t168 < 0) = true := decide_eq_true c24
          clear c24
          obtain rfl := Option.some.inj H
          go_enter Try.func16, Try.ntmps16
          go_wp2_with (first | ((with_reducible refine gate_dst (N := 2) rfl ?_); refine box_event ?hg (N := 2) ?hd (cs := #[.slice A0_0 l0_0.length c0_0, .slice A0_1 l0_1.length c0_1, .slice A0_2 l0_2.length c0_2, .slice A0_3 l0_3.length c0_3, .slice A0_4 l0_4.length c0_4]) (t := 25) ?hr ?_; (case hd => rfl); (case hg => rfl); (case hr => first | (go_simp; done) | (go_simp; rfl)); intro gb164 hg w25 hbox hb; have n0_ := Aside0.mk (below_step (by repeat (first | (with_reducible first | exact HB.out | apply below_alloc | apply pw_below_drewN | apply below_drew1) | exact HB.out)) hb); have n1_ := Aside0.mk (hbox); have n2_ := Aside0.mk ((by rw [hg]; exact (below_size (by repeat (first | (with_reducible first | exact HB.out | apply below_alloc | apply pw_below_drewN | apply below_drew1) | exact HB.out))) : w.heap.size ≤ gb164)); have n3_ := Aside0.mk ((by rw [hg]; exact (below_size (by repeat (first | (with_reducible first | exact HB.out | apply below_alloc | apply pw_below_drewN | apply below_drew1) | exact HB.out))) : w.heap.size ≤ gb164)); clear HB; have HB := n0_; have BK164 := n1_; have GW164 := n2_; have GE164 := n3_; clear n0_ n1_ n2_ n3_; clear hb hbox hg; have hcz26_0 : w25.cell? ⟨gb164, 0, none⟩ = some (.slice A0_0 l0_0.length c0_0) := (blk_cell BK164.out 0).trans rfl; have hcz26_1 : w25.cell? ⟨gb164, 1, none⟩ = some (.slice A0_1 l0_1.length c0_1) := (blk_cell BK164.out 1).trans rfl; have hcz26_2 : w25.cell? ⟨gb164, 2, none⟩ = some (.slice A0_2 l0_2.length c0_2) := (blk_cell BK164.out 2).trans rfl; have hcz26_3 : w25.cell? ⟨gb164, 3, none⟩ = some (.slice A0_3 l0_3.length c0_3) := (blk_cell BK164.out 3).trans rfl; have hcz26_4 : w25.cell? ⟨gb164, 4, none⟩ = some (.slice A0_4 l0_4.length c0_4) := (blk_cell BK164.out 4).trans rfl; have hfz26_0 := blk_frozen BK164.out 0; have hfz26_1 := blk_frozen BK164.out 1; have hfz26_2 := blk_frozen BK164.out 2; have hfz26_3 := blk_frozen BK164.out 3; have hfz26_4 := blk_frozen BK164.out 4) | ((with_reducible refine gate_callee (f := 47) rfl ?_); refine goesL_ (some 8) rfl rfl Try.func47 (by kernel_rfl) rfl #[.slice A0_0 l0_0.length c0_0, .int .i64 a1] rfl (by (try simp only [List.map_toArray, List.map_cons, List.map_nil]); first | done | rfl | (simp only [List.length_drop, List.length_take]; rfl)) ?_; (with_reducible refine (laws_heldStringS.calls k _ _ l0_0 a1 t165 _ ?side1 ?side2 A3.out).mono ?_); (case side1 => repeat (first | exact (Kd.C_below HR0_0.out HB.out) | (with_reducible refine Kd.C_alloc ?_ _) | (with_reducible refine Kd.C_drewN ?_ _) | (with_reducible refine Kd.C_drew ?_))); (case side2 => exact HC0_0.out); rintro e w27 ⟨rfl, hb⟩; refine ⟨_, rfl, ?_⟩; have n0_ := Aside0.mk (blk_below (g := gb164) (o := .cells #[.slice A0_0 l0_0.length c0_0, .slice A0_1 l0_1.length c0_1, .slice A0_2 l0_2.length c0_2, .slice A0_3 l0_3.length c0_3, .slice A0_4 l0_4.length c0_4] 25 (0, 0)) (by (with_reducible repeat (first | refine blk_drewN ?_ _ | refine blk_drew ?_ | refine blk_alloc ?_ _)); exact BK164.out) hb); have n1_ := Aside0.mk (below_step (by repeat (first | (with_reducible first | exact HB.out | apply below_alloc | apply pw_below_drewN | apply below_drew1 | refine below_set ?_ GE164.out) | exact HB.out)) hb); clear BK164; clear HB; have BK164 := n0_; have HB := n1_; clear n0_ n1_; (try clear hb); (try clear hb2); (try clear hk); (try clear hi); have hcz28_0 : w27.cell? ⟨gb164, 0, none⟩ = some (.slice A0_0 l0_0.length c0_0) := (blk_cell BK164.out 0).trans rfl; have hcz28_1 : w27.cell? ⟨gb164, 1, none⟩ = some (.slice A0_1 l0_1.length c0_1) := (blk_cell BK164.out 1).trans rfl; have hcz28_2 : w27.cell? ⟨gb164, 2, none⟩ = some (.slice A0_2 l0_2.length c0_2) := (blk_cell BK164.out 2).trans rfl; have hcz28_3 : w27.cell? ⟨gb164, 3, none⟩ = some (.slice A0_3 l0_3.length c0_3) := (blk_cell BK164.out 3).trans rfl; have hcz28_4 : w27.cell? ⟨gb164, 4, none⟩ = some (.slice A0_4 l0_4.length c0_4) := (blk_cell BK164.out 4).trans rfl; have hfz28_0 := blk_frozen BK164.out 0; have hfz28_1 := blk_frozen BK164.out 1; have hfz28_2 := blk_frozen BK164.out 2; have hfz28_3 := blk_frozen BK164.out 3; have hfz28_4 := blk_frozen BK164.out 4) | ((with_reducible refine gate_callee (f := 47) rfl ?_); refine goesL_ (some 14) rfl rfl Try.func47 (by kernel_rfl) rfl #[.slice A0_1 l0_1.length c0_1, .int .i64 t165] rfl (by (try simp only [List.map_toArray, List.map_cons, List.map_nil]); first | done | rfl | (simp only [List.length_drop, List.length_take]; rfl)) ?_; (with_reducible refine (laws_heldStringS.calls k _ _ l0_1 t165 t166 _ ?side1 ?side2 A8.out).mono ?_); (case side1 => repeat (first | exact (Kd.C_below HR0_1.out HB.out) | (with_reducible refine Kd.C_alloc ?_ _) | (with_reducible refine Kd.C_drewN ?_ _) | (with_reducible refine Kd.C_drew ?_))); (case side2 => exact HC0_1.out); rintro e w29 ⟨rfl, hb⟩; refine ⟨_, rfl, ?_⟩; have n0_ := Aside0.mk (blk_below (g := gb164) (o := .cells #[.slice A0_0 l0_0.length c0_0, .slice A0_1 l0_1.length c0_1, .slice A0_2 l0_2.length c0_2, .slice A0_3 l0_3.length c0_3, .slice A0_4 l0_4.length c0_4] 25 (0, 0)) (by (with_reducible repeat (first | refine blk_drewN ?_ _ | refine blk_drew ?_ | refine blk_alloc ?_ _)); exact BK164.out) hb); have n1_ := Aside0.mk (below_step (by repeat (first | (with_reducible first | exact HB.out | apply below_alloc | apply pw_below_drewN | apply below_drew1 | refine below_set ?_ GE164.out) | exact HB.out)) hb); clear BK164; clear HB; have BK164 := n0_; have HB := n1_; clear n0_ n1_; (try clear hb); (try clear hb2); (try clear hk); (try clear hi); have hcz30_0 : w29.cell? ⟨gb164, 0, none⟩ = some (.slice A0_0 l0_0.length c0_0) := (blk_cell BK164.out 0).trans rfl; have hcz30_1 : w29.cell? ⟨gb164, 1, none⟩ = some (.slice A0_1 l0_1.length c0_1) := (blk_cell BK164.out 1).trans rfl; have hcz30_2 : w29.cell? ⟨gb164, 2, none⟩ = some (.slice A0_2 l0_2.length c0_2) := (blk_cell BK164.out 2).trans rfl; have hcz30_3 : w29.cell? ⟨gb164, 3, none⟩ = some (.slice A0_3 l0_3.length c0_3) := (blk_cell BK164.out 3).trans rfl; have hcz30_4 : w29.cell? ⟨gb164, 4, none⟩ = some (.slice A0_4 l0_4.length c0_4) := (blk_cell BK164.out 4).trans rfl; have hfz30_0 := blk_frozen BK164.out 0; have hfz30_1 := blk_frozen BK164.out 1; have hfz30_2 := blk_frozen BK164.out 2; have hfz30_3 := blk_frozen BK164.out 3; have hfz30_4 := blk_frozen BK164.out 4) | ((with_reducible refine gate_callee (f := 40) rfl ?_); refine goesL_ (some 20) rfl rfl Try.func40 (by kernel_rfl) rfl #[.slice A0_2 l0_2.length c0_2, .int .i64 t166] rfl (by (try simp only [List.map_toArray, List.map_cons, List.map_nil]); first | done | rfl | (simp only [List.length_drop, List.length_take]; rfl)) ?_; (with_reducible refine (laws_heldIntS.calls k _ _ l0_2 t166 t167 _ ?side1 ?side2 A15.out).mono ?_); (case side1 => repeat (first | exact (Kd.C_below HR0_2.out HB.out) | (with_reducible refine Kd.C_alloc ?_ _) | (with_reducible refine Kd.C_drewN ?_ _) | (with_reducible refine Kd.C_drew ?_))); (case side2 => exact HC0_2.out); rintro e w' ⟨rfl, ⟨nd, rfl⟩⟩; refine ⟨_, rfl, ?_⟩) | ((with_reducible refine gate_callee (f := 40) rfl ?_); refine goesL_ (some 26) rfl rfl Try.func40 (by kernel_rfl) rfl #[.slice A0_3 l0_3.length c0_3, .int .i64 t167] rfl (by (try simp only [List.map_toArray, List.map_cons, List.map_nil]); first | done | rfl | (simp only [List.length_drop, List.length_take]; rfl)) ?_; (with_reducible refine (laws_heldIntS.calls k _ _ l0_3 t167 t168 _ ?side1 ?side2 A23.out).mono ?_); (case side1 => repeat (first | exact (Kd.C_below HR0_3.out (by repeat (first | (with_reducible first | exact HB.out | apply below_alloc | apply pw_below_drewN | apply below_drew1 | refine below_set ?_ GE164.out) | exact HB.out))) | (with_reducible refine Kd.C_alloc ?_ _) | (with_reducible refine Kd.C_drewN ?_ _) | (with_reducible refine Kd.C_drew ?_))); (case side2 => exact HC0_3.out); rintro e w' ⟨rfl, ⟨nd, rfl⟩⟩; refine ⟨_, rfl, ?_⟩))
          go_ret
          exact ⟨by first | rfl | (simp [errW_none, errW_some] <;> rfl) | (simp [*, errW_none, errW_some] <;> rfl), by repeat (first | (with_reducible first | exact HB.out | apply below_alloc | apply pw_below_drewN | apply below_drew1 | refine below_set ?_ GE164.out) | exact HB.out)⟩
        · rw [if_neg c24] at H
          have c24b0 : decide (t168 < 0) = false := decide_eq_false c24
          clear c24
          replace H := Option.bind_eq_some_iff.mp H
          obtain ⟨t169, A310, H⟩ := H
          replace H : (if t169 < 0 then (some (-1)) else (some t169)) = some r := H
          have A31 := Aside0.mk A310
          clear A310
          by_cases c32 : t169 < 0
          · rw [if_pos c32] at H
            have c32b0 : decide (t169 < 0) = true := decide_eq_true c32
            clear c32
            obtain rfl := Option.some.inj H
            go_enter Try.func16, Try.ntmps16
            go_wp2_with (first | ((with_reducible refine gate_dst (N := 2) rfl ?_); refine box_event ?hg (N := 2) ?hd (cs := #[.slice A0_0 l0_0.length c0_0, .slice A0_1 l0_1.length c0_1, .slice A0_2 l0_2.length c0_2, .slice A0_3 l0_3.length c0_3, .slice A0_4 l0_4.length c0_4]) (t := 25) ?hr ?_; (case hd => rfl); (case hg => rfl); (case hr => first | (go_simp; done) | (go_simp; rfl)); intro gb164 hg w33 hbox hb; have n0_ := Aside0.mk (below_step (by repeat (first | (with_reducible first | exact HB.out | apply below_alloc | apply pw_below_drewN | apply below_drew1) | exact HB.out)) hb); have n1_ := Aside0.mk (hbox); have n2_ := Aside0.mk ((by rw [hg]; exact (below_size (by repeat (first | (with_reducible first | exact HB.out | apply below_alloc | apply pw_below_drewN | apply below_drew1) | exact HB.out))) : w.heap.size ≤ gb164)); have n3_ := Aside0.mk ((by rw [hg]; exact (below_size (by repeat (first | (with_reducible first | exact HB.out | apply below_alloc | apply pw_below_drewN | apply below_drew1) | exact HB.out))) : w.heap.size ≤ gb164)); clear HB; have HB := n0_; have BK164 := n1_; have GW164 := n2_; have GE164 := n3_; clear n0_ n1_ n2_ n3_; clear hb hbox hg; have hcz34_0 : w33.cell? ⟨gb164, 0, none⟩ = some (.slice A0_0 l0_0.length c0_0) := (blk_cell BK164.out 0).trans rfl; have hcz34_1 : w33.cell? ⟨gb164, 1, none⟩ = some (.slice A0_1 l0_1.length c0_1) := (blk_cell BK164.out 1).trans rfl; have hcz34_2 : w33.cell? ⟨gb164, 2, none⟩ = some (.slice A0_2 l0_2.length c0_2) := (blk_cell BK164.out 2).trans rfl; have hcz34_3 : w33.cell? ⟨gb164, 3, none⟩ = some (.slice A0_3 l0_3.length c0_3) := (blk_cell BK164.out 3).trans rfl; have hcz34_4 : w33.cell? ⟨gb164, 4, none⟩ = some (.slice A0_4 l0_4.length c0_4) := (blk_cell BK164.out 4).trans rfl; have hfz34_0 := blk_frozen BK164.out 0; have hfz34_1 := blk_frozen BK164.out 1; have hfz34_2 := blk_frozen BK164.out 2; have hfz34_3 := blk_frozen BK164.out 3; have hfz34_4 := blk_frozen BK164.out 4) | ((with_reducible refine gate_callee (f := 47) rfl ?_); refine goesL_ (some 8) rfl rfl Try.func47 (by kernel_rfl) rfl #[.slice A0_0 l0_0.length c0_0, .int .i64 a1] rfl (by (try simp only [List.map_toArray, List.map_cons, List.map_nil]); first | done | rfl | (simp only [List.length_drop, List.length_take]; rfl)) ?_; (with_reducible refine (laws_heldStringS.calls k _ _ l0_0 a1 t165 _ ?side1 ?side2 A3.out).mono ?_); (case side1 => repeat (first | exact (Kd.C_below HR0_0.out HB.out) | (with_reducible refine Kd.C_alloc ?_ _) | (with_reducible refine Kd.C_drewN ?_ _) | (with_reducible refine Kd.C_drew ?_))); (case side2 => exact HC0_0.out); rintro e w35 ⟨rfl, hb⟩; refine ⟨_, rfl, ?_⟩; have n0_ := Aside0.mk (blk_below (g := gb164) (o := .cells #[.slice A0_0 l0_0.length c0_0, .slice A0_1 l0_1.length c0_1, .slice A0_2 l0_2.length c0_2, .slice A0_3 l0_3.length c0_3, .slice A0_4 l0_4.length c0_4] 25 (0, 0)) (by (with_reducible repeat (first | refine blk_drewN ?_ _ | refine blk_drew ?_ | refine blk_alloc ?_ _)); exact BK164.out) hb); have n1_ := Aside0.mk (below_step (by repeat (first | (with_reducible first | exact HB.out | apply below_alloc | apply pw_below_drewN | apply below_drew1 | refine below_set ?_ GE164.out) | exact HB.out)) hb); clear BK164; clear HB; have BK164 := n0_; have HB := n1_; clear n0_ n1_; (try clear hb); (try clear hb2); (try clear hk); (try clear hi); have hcz36_0 : w35.cell? ⟨gb164, 0, none⟩ = some (.slice A0_0 l0_0.length c0_0) := (blk_cell BK164.out 0).trans rfl; have hcz36_1 : w35.cell? ⟨gb164, 1, none⟩ = some (.slice A0_1 l0_1.length c0_1) := (blk_cell BK164.out 1).trans rfl; have hcz36_2 : w35.cell? ⟨gb164, 2, none⟩ = some (.slice A0_2 l0_2.length c0_2) := (blk_cell BK164.out 2).trans rfl; have hcz36_3 : w35.cell? ⟨gb164, 3, none⟩ = some (.slice A0_3 l0_3.length c0_3) := (blk_cell BK164.out 3).trans rfl; have hcz36_4 : w35.cell? ⟨gb164, 4, none⟩ = some (.slice A0_4 l0_4.length c0_4) := (blk_cell BK164.out 4).trans rfl; have hfz36_0 := blk_frozen BK164.out 0; have hfz36_1 := blk_frozen BK164.out 1; have hfz36_2 := blk_frozen BK164.out 2; have hfz36_3 := blk_frozen BK164.out 3; have hfz36_4 := blk_frozen BK164.out 4) | ((with_reducible refine gate_callee (f := 47) rfl ?_); refine goesL_ (some 14) rfl rfl Try.func47 (by kernel_rfl) rfl #[.slice A0_1 l0_1.length c0_1, .int .i64 t165] rfl (by (try simp only [List.map_toArray, List.map_cons, List.map_nil]); first | done | rfl | (simp only [List.length_drop, List.length_take]; rfl)) ?_; (with_reducible refine (laws_heldStringS.calls k _ _ l0_1 t165 t166 _ ?side1 ?side2 A8.out).mono ?_); (case side1 => repeat (first | exact (Kd.C_below HR0_1.out HB.out) | (with_reducible refine Kd.C_alloc ?_ _) | (with_reducible refine Kd.C_drewN ?_ _) | (with_reducible refine Kd.C_drew ?_))); (case side2 => exact HC0_1.out); rintro e w37 ⟨rfl, hb⟩; refine ⟨_, rfl, ?_⟩; have n0_ := Aside0.mk (blk_below (g := gb164) (o := .cells #[.slice A0_0 l0_0.length c0_0, .slice A0_1 l0_1.length c0_1, .slice A0_2 l0_2.length c0_2, .slice A0_3 l0_3.length c0_3, .slice A0_4 l0_4.length c0_4] 25 (0, 0)) (by (with_reducible repeat (first | refine blk_drewN ?_ _ | refine blk_drew ?_ | refine blk_alloc ?_ _)); exact BK164.out) hb); have n1_ := Aside0.mk (below_step (by repeat (first | (with_reducible first | exact HB.out | apply below_alloc | apply pw_below_drewN | apply below_drew1 | refine below_set ?_ GE164.out) | exact HB.out)) hb); clear BK164; clear HB; have BK164 := n0_; have HB := n1_; clear n0_ n1_; (try clear hb); (try clear hb2); (try clear hk); (try clear hi); have hcz38_0 : w37.cell? ⟨gb164, 0, none⟩ = some (.slice A0_0 l0_0.length c0_0) := (blk_cell BK164.out 0).trans rfl; have hcz38_1 : w37.cell? ⟨gb164, 1, none⟩ = some (.slice A0_1 l0_1.length c0_1) := (blk_cell BK164.out 1).trans rfl; have hcz38_2 : w37.cell? ⟨gb164, 2, none⟩ = some (.slice A0_2 l0_2.length c0_2) := (blk_cell BK164.out 2).trans rfl; have hcz38_3 : w37.cell? ⟨gb164, 3, none⟩ = some (.slice A0_3 l0_3.length c0_3) := (blk_cell BK164.out 3).trans rfl; have hcz38_4 : w37.cell? ⟨gb164, 4, none⟩ = some (.slice A0_4 l0_4.length c0_4) := (blk_cell BK164.out 4).trans rfl; have hfz38_0 := blk_frozen BK164.out 0; have hfz38_1 := blk_frozen BK164.out 1; have hfz38_2 := blk_frozen BK164.out 2; have hfz38_3 := blk_frozen BK164.out 3; have hfz38_4 := blk_frozen BK164.out 4) | ((with_reducible refine gate_callee (f := 40) rfl ?_); refine goesL_ (some 20) rfl rfl Try.func40 (by kernel_rfl) rfl #[.slice A0_2 l0_2.length c0_2, .int .i64 t166] rfl (by (try simp only [List.map_toArray, List.map_cons, List.map_nil]); first | done | rfl | (simp only [List.length_drop, List.length_take]; rfl)) ?_; (with_reducible refine (laws_heldIntS.calls k _ _ l0_2 t166 t167 _ ?side1 ?side2 A15.out).mono ?_); (case side1 => repeat (first | exact (Kd.C_below HR0_2.out HB.out) | (with_reducible refine Kd.C_alloc ?_ _) | (with_reducible refine Kd.C_drewN ?_ _) | (with_reducible refine Kd.C_drew ?_))); (case side2 => exact HC0_2.out); rintro e w' ⟨rfl, ⟨nd, rfl⟩⟩; refine ⟨_, rfl, ?_⟩) | ((with_reducible refine gate_callee (f := 40) rfl ?_); refine goesL_ (some 26) rfl rfl Try.func40 (by kernel_rfl) rfl #[.slice A0_3 l0_3.length c0_3, .int .i64 t167] rfl (by (try simp only [List.map_toArray, List.map_cons, List.map_nil]); first | done | rfl | (simp only [List.length_drop, List.length_take]; rfl)) ?_; (with_reducible refine (laws_heldIntS.calls k _ _ l0_3 t167 t168 _ ?side1 ?side2 A23.out).mono ?_); (case side1 => repeat (first | exact (Kd.C_below HR0_3.out (by repeat (first | (with_reducible first | exact HB.out | apply below_alloc | apply pw_below_drewN | apply below_drew1 | refine below_set ?_ GE164.out) | exact HB.out))) | (with_reducible refine Kd.C_alloc ?_ _) | (with_reducible refine Kd.C_drewN ?_ _) | (with_reducible refine Kd.C_drew ?_))); (case side2 => exact HC0_3.out); rintro e w' ⟨rfl, ⟨nd, rfl⟩⟩; refine ⟨_, rfl, ?_⟩) | ((with_reducible refine gate_callee (f := 40) rfl ?_); refine goesL_ (some 32) rfl rfl Try.func40 (by kernel_rfl) rfl #[.slice A0_4 l0_4.length c0_4, .int .i64 t168] rfl (by (try simp only [List.map_toArray, List.map_cons, List.map_nil]); first | done | rfl | (simp only [List.length_drop, List.length_take]; rfl)) ?_; (with_reducible refine (laws_heldIntS.calls k _ _ l0_4 t168 t169 _ ?side1 ?side2 A31.out).mono ?_); (case side1 => repeat (first | exact (Kd.C_below HR0_4.out (by repeat (first | (with_reducible first | exact HB.out | apply below_alloc | apply pw_below_drewN | apply below_drew1 | refine below_set ?_ GE164.out) | exact HB.out))) | (with_reducible refine Kd.C_alloc ?_ _) | (with_reducible refine Kd.C_drewN ?_ _) | (with_reducible refine Kd.C_drew ?_))); (case side2 => exact HC0_4.out); rintro e w' ⟨rfl, ⟨nd, rfl⟩⟩; refine ⟨_, rfl, ?_⟩))
            go_ret
            exact ⟨by first | rfl | (simp [errW_none, errW_some] <;> rfl) | (simp [*, errW_none, errW_some] <;> rfl), by repeat (first | (with_reducible first | exact HB.out | apply below_alloc | apply pw_below_drewN | apply below_drew1 | refine below_set ?_ GE164.out) | exact HB.out)⟩
          · rw [if_neg c32] at H
            have c32b0 : decide (t169 < 0) = false := decide_eq_false c32
            clear c32
            obtain rfl := Option.some.inj H
            go_enter Try.func16, Try.ntmps16
            go_wp2_with (first | ((with_reducible refine gate_dst (N := 2) rfl ?_); refine box_event ?hg (N := 2) ?hd (cs := #[.slice A0_0 l0_0.length c0_0, .slice A0_1 l0_1.length c0_1, .slice A0_2 l0_2.length c0_2, .slice A0_3 l0_3.length c0_3, .slice A0_4 l0_4.length c0_4]) (t := 25) ?hr ?_; (case hd => rfl); (case hg => rfl); (case hr => first | (go_simp; done) | (go_simp; rfl)); intro gb164 hg w39 hbox hb; have n0_ := Aside0.mk (below_step (by repeat (first | (with_reducible first | exact HB.out | apply below_alloc | apply pw_below_drewN | apply below_drew1) | exact HB.out)) hb); have n1_ := Aside0.mk (hbox); have n2_ := Aside0.mk ((by rw [hg]; exact (below_size (by repeat (first | (with_reducible first | exact HB.out | apply below_alloc | apply pw_below_drewN | apply below_drew1) | exact HB.out))) : w.heap.size ≤ gb164)); have n3_ := Aside0.mk ((by rw [hg]; exact (below_size (by repeat (first | (with_reducible first | exact HB.out | apply below_alloc | apply pw_below_drewN | apply below_drew1) | exact HB.out))) : w.heap.size ≤ gb164)); clear HB; have HB := n0_; have BK164 := n1_; have GW164 := n2_; have GE164 := n3_; clear n0_ n1_ n2_ n3_; clear hb hbox hg; have hcz40_0 : w39.cell? ⟨gb164, 0, none⟩ = some (.slice A0_0 l0_0.length c0_0) := (blk_cell BK164.out 0).trans rfl; have hcz40_1 : w39.cell? ⟨gb164, 1, none⟩ = some (.slice A0_1 l0_1.length c0_1) := (blk_cell BK164.out 1).trans rfl; have hcz40_2 : w39.cell? ⟨gb164, 2, none⟩ = some (.slice A0_2 l0_2.length c0_2) := (blk_cell BK164.out 2).trans rfl; have hcz40_3 : w39.cell? ⟨gb164, 3, none⟩ = some (.slice A0_3 l0_3.length c0_3) := (blk_cell BK164.out 3).trans rfl; have hcz40_4 : w39.cell? ⟨gb164, 4, none⟩ = some (.slice A0_4 l0_4.length c0_4) := (blk_cell BK164.out 4).trans rfl; have hfz40_0 := blk_frozen BK164.out 0; have hfz40_1 := blk_frozen BK164.out 1; have hfz40_2 := blk_frozen BK164.out 2; have hfz40_3 := blk_frozen BK164.out 3; have hfz40_4 := blk_frozen BK164.out 4) | ((with_reducible refine gate_callee (f := 47) rfl ?_); refine goesL_ (some 8) rfl rfl Try.func47 (by kernel_rfl) rfl #[.slice A0_0 l0_0.length c0_0, .int .i64 a1] rfl (by (try simp only [List.map_toArray, List.map_cons, List.map_nil]); first | done | rfl | (simp only [List.length_drop, List.length_take]; rfl)) ?_; (with_reducible refine (laws_heldStringS.calls k _ _ l0_0 a1 t165 _ ?side1 ?side2 A3.out).mono ?_); (case side1 => repeat (first | exact (Kd.C_below HR0_0.out HB.out) | (with_reducible refine Kd.C_alloc ?_ _) | (with_reducible refine Kd.C_drewN ?_ _) | (with_reducible refine Kd.C_drew ?_))); (case side2 => exact HC0_0.out); rintro e w41 ⟨rfl, hb⟩; refine ⟨_, rfl, ?_⟩; have n0_ := Aside0.mk (blk_below (g := gb164) (o := .cells #[.slice A0_0 l0_0.length c0_0, .slice A0_1 l0_1.length c0_1, .slice A0_2 l0_2.length c0_2, .slice A0_3 l0_3.length c0_3, .slice A0_4 l0_4.length c0_4] 25 (0, 0)) (by (with_reducible repeat (first | refine blk_drewN ?_ _ | refine blk_drew ?_ | refine blk_alloc ?_ _)); exact BK164.out) hb); have n1_ := Aside0.mk (below_step (by repeat (first | (with_reducible first | exact HB.out | apply below_alloc | apply pw_below_drewN | apply below_drew1 | refine below_set ?_ GE164.out) | exact HB.out)) hb); clear BK164; clear HB; have BK164 := n0_; have HB := n1_; clear n0_ n1_; (try clear hb); (try clear hb2); (try clear hk); (try clear hi); have hcz42_0 : w41.cell? ⟨gb164, 0, none⟩ = some (.slice A0_0 l0_0.length c0_0) := (blk_cell BK164.out 0).trans rfl; have hcz42_1 : w41.cell? ⟨gb164, 1, none⟩ = some (.slice A0_1 l0_1.length c0_1) := (blk_cell BK164.out 1).trans rfl; have hcz42_2 : w41.cell? ⟨gb164, 2, none⟩ = some (.slice A0_2 l0_2.length c0_2) := (blk_cell BK164.out 2).trans rfl; have hcz42_3 : w41.cell? ⟨gb164, 3, none⟩ = some (.slice A0_3 l0_3.length c0_3) := (blk_cell BK164.out 3).trans rfl; have hcz42_4 : w41.cell? ⟨gb164, 4, none⟩ = some (.slice A0_4 l0_4.length c0_4) := (blk_cell BK164.out 4).trans rfl; have hfz42_0 := blk_frozen BK164.out 0; have hfz42_1 := blk_frozen BK164.out 1; have hfz42_2 := blk_frozen BK164.out 2; have hfz42_3 := blk_frozen BK164.out 3; have hfz42_4 := blk_frozen BK164.out 4) | ((with_reducible refine gate_callee (f := 47) rfl ?_); refine goesL_ (some 14) rfl rfl Try.func47 (by kernel_rfl) rfl #[.slice A0_1 l0_1.length c0_1, .int .i64 t165] rfl (by (try simp only [List.map_toArray, List.map_cons, List.map_nil]); first | done | rfl | (simp only [List.length_drop, List.length_take]; rfl)) ?_; (with_reducible refine (laws_heldStringS.calls k _ _ l0_1 t165 t166 _ ?side1 ?side2 A8.out).mono ?_); (case side1 => repeat (first | exact (Kd.C_below HR0_1.out HB.out) | (with_reducible refine Kd.C_alloc ?_ _) | (with_reducible refine Kd.C_drewN ?_ _) | (with_reducible refine Kd.C_drew ?_))); (case side2 => exact HC0_1.out); rintro e w43 ⟨rfl, hb⟩; refine ⟨_, rfl, ?_⟩; have n0_ := Aside0.mk (blk_below (g := gb164) (o := .cells #[.slice A0_0 l0_0.length c0_0, .slice A0_1 l0_1.length c0_1, .slice A0_2 l0_2.length c0_2, .slice A0_3 l0_3.length c0_3, .slice A0_4 l0_4.length c0_4] 25 (0, 0)) (by (with_reducible repeat (first | refine blk_drewN ?_ _ | refine blk_drew ?_ | refine blk_alloc ?_ _)); exact BK164.out) hb); have n1_ := Aside0.mk (below_step (by repeat (first | (with_reducible first | exact HB.out | apply below_alloc | apply pw_below_drewN | apply below_drew1 | refine below_set ?_ GE164.out) | exact HB.out)) hb); clear BK164; clear HB; have BK164 := n0_; have HB := n1_; clear n0_ n1_; (try clear hb); (try clear hb2); (try clear hk); (try clear hi); have hcz44_0 : w43.cell? ⟨gb164, 0, none⟩ = some (.slice A0_0 l0_0.length c0_0) := (blk_cell BK164.out 0).trans rfl; have hcz44_1 : w43.cell? ⟨gb164, 1, none⟩ = some (.slice A0_1 l0_1.length c0_1) := (blk_cell BK164.out 1).trans rfl; have hcz44_2 : w43.cell? ⟨gb164, 2, none⟩ = some (.slice A0_2 l0_2.length c0_2) := (blk_cell BK164.out 2).trans rfl; have hcz44_3 : w43.cell? ⟨gb164, 3, none⟩ = some (.slice A0_3 l0_3.length c0_3) := (blk_cell BK164.out 3).trans rfl; have hcz44_4 : w43.cell? ⟨gb164, 4, none⟩ = some (.slice A0_4 l0_4.length c0_4) := (blk_cell BK164.out 4).trans rfl; have hfz44_0 := blk_frozen BK164.out 0; have hfz44_1 := blk_frozen BK164.out 1; have hfz44_2 := blk_frozen BK164.out 2; have hfz44_3 := blk_frozen BK164.out 3; have hfz44_4 := blk_frozen BK164.out 4) | ((with_reducible refine gate_callee (f := 40) rfl ?_); refine goesL_ (some 20) rfl rfl Try.func40 (by kernel_rfl) rfl #[.slice A0_2 l0_2.length c0_2, .int .i64 t166] rfl (by (try simp only [List.map_toArray, List.map_cons, List.map_nil]); first | done | rfl | (simp only [List.length_drop, List.length_take]; rfl)) ?_; (with_reducible refine (laws_heldIntS.calls k _ _ l0_2 t166 t167 _ ?side1 ?side2 A15.out).mono ?_); (case side1 => repeat (first | exact (Kd.C_below HR0_2.out HB.out) | (with_reducible refine Kd.C_alloc ?_ _) | (with_reducible refine Kd.C_drewN ?_ _) | (with_reducible refine Kd.C_drew ?_))); (case side2 => exact HC0_2.out); rintro e w' ⟨rfl, ⟨nd, rfl⟩⟩; refine ⟨_, rfl, ?_⟩) | ((with_reducible refine gate_callee (f := 40) rfl ?_); refine goesL_ (some 26) rfl rfl Try.func40 (by kernel_rfl) rfl #[.slice A0_3 l0_3.length c0_3, .int .i64 t167] rfl (by (try simp only [List.map_toArray, List.map_cons, List.map_nil]); first | done | rfl | (simp only [List.length_drop, List.length_take]; rfl)) ?_; (with_reducible refine (laws_heldIntS.calls k _ _ l0_3 t167 t168 _ ?side1 ?side2 A23.out).mono ?_); (case side1 => repeat (first | exact (Kd.C_below HR0_3.out (by repeat (first | (with_reducible first | exact HB.out | apply below_alloc | apply pw_below_drewN | apply below_drew1 | refine below_set ?_ GE164.out) | exact HB.out))) | (with_reducible refine Kd.C_alloc ?_ _) | (with_reducible refine Kd.C_drewN ?_ _) | (with_reducible refine Kd.C_drew ?_))); (case side2 => exact HC0_3.out); rintro e w' ⟨rfl, ⟨nd, rfl⟩⟩; refine ⟨_, rfl, ?_⟩) | ((with_reducible refine gate_callee (f := 40) rfl ?_); refine goesL_ (some 32) rfl rfl Try.func40 (by kernel_rfl) rfl #[.slice A0_4 l0_4.length c0_4, .int .i64 t168] rfl (by (try simp only [List.map_toArray, List.map_cons, List.map_nil]); first | done | rfl | (simp only [List.length_drop, List.length_take]; rfl)) ?_; (with_reducible refine (laws_heldIntS.calls k _ _ l0_4 t168 t169 _ ?side1 ?side2 A31.out).mono ?_); (case side1 => repeat (first | exact (Kd.C_below HR0_4.out (by repeat (first | (with_reducible first | exact HB.out | apply below_alloc | apply pw_below_drewN | apply below_drew1 | refine below_set ?_ GE164.out) | exact HB.out))) | (with_reducible refine Kd.C_alloc ?_ _) | (with_reducible refine Kd.C_drewN ?_ _) | (with_reducible refine Kd.C_drew ?_))); (case side2 => exact HC0_4.out); rintro e w' ⟨rfl, ⟨nd, rfl⟩⟩; refine ⟨_, rfl, ?_⟩))
            go_ret
            exact ⟨by first | rfl | (simp [errW_none, errW_some] <;> rfl) | (simp [*, errW_none, errW_some] <;> rfl), by repeat (first | (with_reducible first | exact HB.out | apply below_alloc | apply pw_below_drewN | apply below_drew1 | refine below_set ?_ GE164.out) | exact HB.out)⟩
end Go.Proofs.Ytolmblfffnnabaa.P
namespace Go.Proofs.Ytolmblfffnnabaa.P
open Go.RowKit Go.Proofs.YtolmblfffnnabaaW.PrintWords
def stCount (s : St) : Nat := s.now.length + s.sure.length + s.last.length + s.slast.length + s.floors.length
noncomputable def stMark (s : St) (m : Int) : St := ⟨mStrs m s.now.length, mStrs (m + s.now.length) s.sure.length, mInts (m + s.now.length + s.sure.length) s.last.length, mInts (m + s.now.length + s.sure.length + s.last.length) s.slast.length, mInts (m + s.now.length + s.sure.length + s.last.length + s.slast.length) s.floors.length⟩
theorem own_ne {v u : Value} {k : Nat} (_hu : u.ownBlock = some k) (h : some k ≠ v.ownBlock) : ¬ v.ownBlock = some k := fun e => h e.symm
theorem markStore_c {w0 w : World} {v : Value} {s : St} {lo hi : Nat} {m : Int} (hB : Below w0.heap.size w0 w) (hv : StR w lo hi v s) (hlo : w0.heap.size ≤ lo) (hs : Small s) (h0 : 0 ≤ m) (hm : m ≤ 1000000000000) :
    Calls Try.prog 15 #[v, .int .i64 m] w fun e w' => e = .returned (.int .i64 (m + stCount s)) ∧ StR w' lo hi v (stMark s m) ∧ Below w0.heap.size w0 w' ∧ Kept w w' (fun k => lo ≤ k ∧ k < hi) := by
  obtain ⟨v0, v1, v2, v3, v4, rfl, r0, r1, r2, r3, r4⟩ := hv
  have he : Ev (fun k => laws_markStore.f k s.now s.sure s.last s.slast s.floors m) (m + stCount s, (stMark s m).now, (stMark s m).sure, (stMark s m).last, (stMark s m).slast, (stMark s m).floors) := by
    obtain ⟨g0, g1, g2, g3, g4⟩ := hs
    have ec : m + (stCount s : Int) = m + s.now.length + s.sure.length + s.last.length + s.slast.length + s.floors.length := by unfold stCount; omega
    rw [ec]
    unfold laws_markStore.f stMark
    refine Ev.bind (laws_markStringS_ev h0 (by omega)) ?_
    refine Ev.bind (laws_markStringS_ev (by omega) (by omega)) ?_
    refine Ev.bind (laws_markIntS_ev (by omega) (by omega)) ?_
    refine Ev.bind (laws_markIntS_ev (by omega) (by omega)) ?_
    refine Ev.bind (laws_markIntS_ev (by omega) (by omega)) ?_
    exact Ev.now _
  obtain ⟨k, hk⟩ := he.rounds
  have b0 := fun k hk => (Kd.R_base r0 k hk : lo ≤ k)
  have b1 := fun k hk => (Kd.R_base r1 k hk : lo ≤ k)
  have b2 := fun k hk => (Kd.R_base r2 k hk : lo ≤ k)
  have b3 := fun k hk => (Kd.R_base r3 k hk : lo ≤ k)
  have b4 := fun k hk => (Kd.R_base r4 k hk : lo ≤ k)
  have o0 := r0.1
  have o1 := r1.1
  have o2 := r2.1
  have o3 := r3.1
  have o4 := r4.1
  refine (laws_markStore.calls k (fun k => v0.ownBlock = some k) v0 s.now (fun k => v1.ownBlock = some k) v1 s.sure (fun k => v2.ownBlock = some k) v2 s.last (fun k => v3.ownBlock = some k) v3 s.slast (fun k => v4.ownBlock = some k) v4 s.floors m _ _ _ _ _ _ w0 w hB
    (R_raise r0 fun k hk => ⟨by have := b0 k hk; omega, hk⟩) (fun k hk => own_ne hk (o0 k hk).2)
    (R_raise r1 fun k hk => ⟨by have := b1 k hk; omega, hk⟩) (fun k hk => own_ne hk (o1 k hk).2)
    (R_raise r2 fun k hk => ⟨by have := b2 k hk; omega, hk⟩) (fun k hk => own_ne hk (o2 k hk).2.1) (fun k hk => own_ne hk (o2 k hk).2.2)
    (R_raise r3 fun k hk => ⟨by have := b3 k hk; omega, hk⟩) (fun k hk => own_ne hk (o3 k hk).2.1) (fun k hk => own_ne hk (o3 k hk).2.2)
    (R_raise r4 fun k hk => ⟨by have := b4 k hk; omega, hk⟩) (fun k hk => own_ne hk (o4 k hk).2.1) (fun k hk => own_ne hk (o4 k hk).2.2) hk).mono ?_
  rintro e w' ⟨he, q0, q1, q2, q3, q4, hb, hkp⟩
  refine ⟨he, ⟨v0, v1, v2, v3, v4, rfl, R_raise q0 fun k hk => ⟨b0 k hk, o0 k hk⟩, R_raise q1 fun k hk => ⟨b1 k hk, o1 k hk⟩, R_raise q2 fun k hk => ⟨b2 k hk, o2 k hk⟩, R_raise q3 fun k hk => ⟨b3 k hk, o3 k hk⟩, R_raise q4 fun k hk => ⟨b4 k hk, o4 k hk⟩⟩, hb, hkp.mono ?_⟩
  rintro k (h | h | h | h | h)
  · exact ⟨b0 k h, (o0 k h).1⟩
  · exact ⟨b1 k h, (o1 k h).1⟩
  · exact ⟨b2 k h, (o2 k h).1⟩
  · exact ⟨b3 k h, (o3 k h).1⟩
  · exact ⟨b4 k h, (o4 k h).1⟩
theorem heldStore_c {w : World} {v : Value} {s : St} {m : Int} (hv : StC w v (stMark s m)) (hs : Small s) (h0 : 0 ≤ m) (hm : m ≤ 1000000000000) :
    Calls Try.prog 16 #[v, .int .i64 m] w fun e w' => e = .returned (.int .i64 (m + stCount s)) ∧ Below w.heap.size w w' := by
  have he : Ev (fun k => laws_heldStore.f k (stMark s m).now (stMark s m).sure (stMark s m).last (stMark s m).slast (stMark s m).floors m) (m + stCount s) := by
    obtain ⟨g0, g1, g2, g3, g4⟩ := hs
    have ec : m + (stCount s : Int) = m + s.now.length + s.sure.length + s.last.length + s.slast.length + s.floors.length := by unfold stCount; omega
    rw [ec]
    unfold laws_heldStore.f stMark
    refine Ev.bind (laws_heldStringS_ev h0 (by omega)) (Ev.congr (fun k => by rw [if_neg (by omega)]) ?_)
    refine Ev.bind (laws_heldStringS_ev (by omega) (by omega)) (Ev.congr (fun k => by rw [if_neg (by omega)]) ?_)
    refine Ev.bind (laws_heldIntS_ev (by omega) (by omega)) (Ev.congr (fun k => by rw [if_neg (by omega)]) ?_)
    refine Ev.bind (laws_heldIntS_ev (by omega) (by omega)) (Ev.congr (fun k => by rw [if_neg (by omega)]) ?_)
    refine Ev.bind (laws_heldIntS_ev (by omega) (by omega)) (Ev.congr (fun k => by rw [if_neg (by omega)]) ?_)
    exact Ev.now _
  obtain ⟨k, hk⟩ := he.rounds
  obtain ⟨A0, c0, A1, c1, A2, c2, A3, c3, A4, c4, rfl, g0, g1, g2, g3, g4⟩ := hv
  exact laws_heldStore.calls k A0 c0 _ A1 c1 _ A2 c2 _ A3 c3 _ A4 c4 _ m _ w g0.1 g0.2 g1.1 g1.2 g2.1 g2.2 g3.1 g3.2 g4.1 g4.2 hk
theorem markStore_q {w0 w : World} {v : Value} {s : St} {lo hi : Nat} {r : Int} (hB : Below w0.heap.size w0 w) (hv : StR w lo hi v s) (hlo : w0.heap.size ≤ lo) (hs : Small s) (hr : 1 + (stCount s : Int) = r) :
    Calls Try.prog 15 #[v, .int .i64 1] w fun e w' => e = .returned (.int .i64 r) ∧ StR w' lo hi v (stMark s 1) ∧ Below w0.heap.size w0 w' ∧ Kept w w' (fun k => lo ≤ k ∧ k < hi) := by
  subst hr
  exact markStore_c hB hv hlo hs (by omega) (by omega)
theorem heldStore_q {w : World} {v : Value} {s : St} {r : Int} (hv : StC w v (stMark s 1)) (hs : Small s) (hr : 1 + (stCount s : Int) = r) :
    Calls Try.prog 16 #[v, .int .i64 1] w fun e w' => e = .returned (.int .i64 r) ∧ Below w.heap.size w w' := by
  subst hr
  exact heldStore_c hv hs (by omega) (by omega)
end Go.Proofs.Ytolmblfffnnabaa.P

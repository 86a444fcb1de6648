/- Part 5 of the proof of FnExactStoreDo: words, contracts of callees, plain lemmas. -/
import Derived.Test.YtolmblfffnnabaaZStoreDo4
namespace Go.Proofs.Ytolmblfffnnabaa.P
open Go.RowKit Go.Proofs.YtolmblfffnnabaaW.PrintWords Go.Proofs.YtolmblfffnnabaaW.PrintLast Go.Proofs.YtolmblfffnnabaaW.PrintMore
attribute [local go_sem] max2_int min2_int max_two min_two
set_option linter.unusedVariables false
set_option linter.unusedSimpArgs false
set_option maxHeartbeats 8000000 in
set_option maxRecDepth 100000 in
theorem impl_StoreDo_p0 {w : World} {v0 : Value} {s0 : St} (hv0 : StC w v0 s0) (hz0 : Sized s0) (hs0 : Small s0) (who ep num obj at_ : Int) (data : ByteArray) (hd : data.size ≤ 9223372036854775807) (hk : stOk s0 = false) :
    Calls Try.prog 44 #[v0, .agg #[.int .i64 who, .int .i64 ep, .int .i64 num, .int .i64 obj, .int .i64 at_, .string data]] w fun e w' => ∃ u, e = .returned (.tuple #[u, .int .i64 1]) ∧ StR w' w.heap.size w'.heap.size u stNone ∧ Below w.heap.size w w' := by
  have HV0 := Aside0.mk hv0
  have HZ0 := Aside0.mk hz0
  obtain ⟨A0_0, c0_0, A0_1, c0_1, A0_2, c0_2, A0_3, c0_3, A0_4, c0_4, rfl, _⟩ := hv0
  have HS0 := Aside0.mk hs0
  clear hz0 hs0
  have HK := Aside0.mk hk
  clear hk
  have hu25 := Try.underlying25
  go_enter Try.func44, Try.ntmps44
  go_wp2_with (first | ((with_reducible refine gate_dst (N := 2) rfl ?_); refine ev_box ?hg (N := 2) ?hd (cs := #[.slice A0_0 s0.now.length c0_0, .slice A0_1 s0.sure.length c0_1, .slice A0_2 s0.last.length c0_2, .slice A0_3 s0.slast.length c0_3, .slice A0_4 s0.floors.length c0_4]) (t := 25) ?hr ?_; (case hd => rfl); (case hg => rfl); (case hr => first | (go_simp; done) | (go_simp; rfl)); intro g2 W1 HG4 BK2 HB3) | ((with_reducible refine gate_dst (N := 3) rfl ?_); refine ev_box ?hg (N := 3) ?hd (cs := #[.int .i64 who, .int .i64 ep, .int .i64 num, .int .i64 obj, .int .i64 at_, .string data]) (t := 63) ?hr ?_; (case hd => rfl); (case hg => rfl); (case hr => first | (go_simp; done) | (go_simp; rfl)); intro g3 W5 HG8 BK6 HB7) | ((with_reducible refine gate_dst (N := 4) rfl ?_); refine ev_box ?hg (N := 4) ?hd (cs := #[.slice none 0 0, .slice none 0 0, .slice none 0 0, .slice none 0 0, .slice none 0 0]) (t := 25) ?hr ?_; (case hd => rfl); (case hg => rfl); (case hr => first | (go_simp; done) | (go_simp; rfl)); intro g4 W9 HG12 BK10 HB11) | ((with_reducible refine gate_dst (N := 6) rfl ?_); refine ev_load rfl (N := 6) rfl rfl (g := g2) rfl (cs := #[.slice A0_0 s0.now.length c0_0, .slice A0_1 s0.sure.length c0_1, .slice A0_2 s0.last.length c0_2, .slice A0_3 s0.slast.length c0_3, .slice A0_4 s0.floors.length c0_4]) (Bk.below BK2.out (below_step HB7.out HB11.out)) hu25 rfl (by kernel_rfl) ?_))
  refine (impl_StoreOk_q (StC.below HV0.out (below_step (below_step HB3.out HB7.out) HB11.out)) HZ0.out HK.out).mono ?_
  rintro e W13 ⟨rfl, hb14⟩
  have HB15 := Aside0.mk hb14
  clear hb14
  go_wp2_with (first | ((with_reducible refine gate_store (t := 25) (p := 4) rfl ?_); refine ev_put (by rfl) rfl rfl (g := g4) rfl (cs := #[.slice none 0 0, .slice none 0 0, .slice none 0 0, .slice none 0 0, .slice none 0 0]) rfl (Bk.below BK10.out HB15.out) (by kernel_rfl) rfl rfl ?_; intro W16 BK17 HB18 HK19; have z0_ := HB3.out.size; have z1_ := HG4.out; have z2_ := BK2.out.lt; have z3_ := HB7.out.size; have z4_ := HG8.out; have z5_ := BK6.out.lt; have z6_ := HB11.out.size; have z7_ := HG12.out; have z8_ := BK10.out.lt; have z9_ := HB15.out.size; have HB20 := Aside0.mk (below_at (below_step (below_step (below_step HB3.out HB7.out) HB11.out) HB15.out) HB18.out (by show w.heap.size ≤ g4; omega)); have HK21 := Aside0.mk (HK19.out); have F22 := Aside0.mk (StC.below HV0.out HB20.out); have F23 := Aside0.mk (Bk.kept (Bk.below BK2.out (below_step (below_step HB7.out HB11.out) HB15.out)) HK21.out (fun h_ => (by obtain ⟨h1_, h2_⟩ := h_; omega))); have F24 := Aside0.mk (Bk.kept (Bk.below BK6.out (below_step HB11.out HB15.out)) HK21.out (fun h_ => (by obtain ⟨h1_, h2_⟩ := h_; omega))); have F25 := Aside0.mk (BK17.out); clear z0_ z1_ z2_ z3_ z4_ z5_ z6_ z7_ z8_ z9_))
  try go_wp2
  refine bodyPost_ret (results_ct rfl _ _ g4 25 #[.slice none 0 0, .slice none 0 0, .slice none 0 0, .slice none 0 0, .slice none 0 0] (0, 0) _ rfl F25.out hu25 rfl (by kernel_rfl)) rfl ?_
  exact ⟨_, rfl, StR.zero _ _, HB20.out⟩
set_option maxHeartbeats 8000000 in
set_option maxRecDepth 100000 in
theorem impl_StoreDo_p1 {w : World} {v0 : Value} {s0 : St} (hv0 : StC w v0 s0) (hz0 : Sized s0) (hs0 : Small s0) (who ep num obj at_ : Int) (data : ByteArray) (hd : data.size ≤ 9223372036854775807) (hk : stOk s0 = true) (hq : reqOk ⟨who, ep, num, obj, at_, data⟩ = false) :
    Calls Try.prog 44 #[v0, .agg #[.int .i64 who, .int .i64 ep, .int .i64 num, .int .i64 obj, .int .i64 at_, .string data]] w fun e w' => ∃ u, e = .returned (.tuple #[u, .int .i64 1]) ∧ StR w' w.heap.size w'.heap.size u s0 ∧ Below w.heap.size w w' := by
  have HV0 := Aside0.mk hv0
  have HZ0 := Aside0.mk hz0
  obtain ⟨A0_0, c0_0, A0_1, c0_1, A0_2, c0_2, A0_3, c0_3, A0_4, c0_4, rfl, _⟩ := hv0
  have HS0 := Aside0.mk hs0
  clear hz0 hs0
  have HK := Aside0.mk hk
  clear hk
  have HD := Aside0.mk hd
  have HQ := Aside0.mk hq
  clear hd hq
  have hu25 := Try.underlying25
  have hu63 := Try.underlying63
  go_enter Try.func44, Try.ntmps44
  go_wp2_with (first | ((with_reducible refine gate_dst (N := 2) rfl ?_); refine ev_box ?hg (N := 2) ?hd (cs := #[.slice A0_0 s0.now.length c0_0, .slice A0_1 s0.sure.length c0_1, .slice A0_2 s0.last.length c0_2, .slice A0_3 s0.slast.length c0_3, .slice A0_4 s0.floors.length c0_4]) (t := 25) ?hr ?_; (case hd => rfl); (case hg => rfl); (case hr => first | (go_simp; done) | (go_simp; rfl)); intro g2 W1 HG4 BK2 HB3) | ((with_reducible refine gate_dst (N := 3) rfl ?_); refine ev_box ?hg (N := 3) ?hd (cs := #[.int .i64 who, .int .i64 ep, .int .i64 num, .int .i64 obj, .int .i64 at_, .string data]) (t := 63) ?hr ?_; (case hd => rfl); (case hg => rfl); (case hr => first | (go_simp; done) | (go_simp; rfl)); intro g3 W5 HG8 BK6 HB7) | ((with_reducible refine gate_dst (N := 4) rfl ?_); refine ev_box ?hg (N := 4) ?hd (cs := #[.slice none 0 0, .slice none 0 0, .slice none 0 0, .slice none 0 0, .slice none 0 0]) (t := 25) ?hr ?_; (case hd => rfl); (case hg => rfl); (case hr => first | (go_simp; done) | (go_simp; rfl)); intro g4 W9 HG12 BK10 HB11) | ((with_reducible refine gate_dst (N := 6) rfl ?_); refine ev_load rfl (N := 6) rfl rfl (g := g2) rfl (cs := #[.slice A0_0 s0.now.length c0_0, .slice A0_1 s0.sure.length c0_1, .slice A0_2 s0.last.length c0_2, .slice A0_3 s0.slast.length c0_3, .slice A0_4 s0.floors.length c0_4]) (Bk.below BK2.out (below_step HB7.out HB11.out)) hu25 rfl (by kernel_rfl) ?_))
  refine (impl_StoreOk_q (StC.below HV0.out (below_step (below_step HB3.out HB7.out) HB11.out)) HZ0.out HK.out).mono ?_
  rintro e W13 ⟨rfl, hb14⟩
  have HB15 := Aside0.mk hb14
  clear hb14
  go_wp2_with (first | ((with_reducible refine gate_dst (N := 10) rfl ?_); refine ev_load rfl (N := 10) rfl rfl (g := g2) rfl (cs := #[.slice A0_0 s0.now.length c0_0, .slice A0_1 s0.sure.length c0_1, .slice A0_2 s0.last.length c0_2, .slice A0_3 s0.slast.length c0_3, .slice A0_4 s0.floors.length c0_4]) (Bk.below BK2.out (below_step (below_step HB7.out HB11.out) HB15.out)) hu25 rfl (by kernel_rfl) ?_))
  refine (impl_again_c (StC.below HV0.out (below_step (below_step (below_step HB3.out HB7.out) HB11.out) HB15.out)) HS0.out).mono ?_
  rintro e W19 ⟨u16, rfl, hr17, hb20⟩
  have HB21 := Aside0.mk hb20
  clear hb20
  have HRs18 := Aside0.mk hr17
  obtain ⟨as18_0, ds18_0, as18_1, ds18_1, as18_2, ds18_2, as18_3, ds18_3, as18_4, ds18_4, rfl, _⟩ := hr17.toC
  clear hr17
  go_wp2_with (first | ((with_reducible refine gate_store (t := 25) (p := 2) rfl ?_); refine ev_put (by rfl) rfl rfl (g := g2) rfl (cs := #[.slice as18_0 s0.now.length ds18_0, .slice as18_1 s0.sure.length ds18_1, .slice as18_2 s0.last.length ds18_2, .slice as18_3 s0.slast.length ds18_3, .slice as18_4 s0.floors.length ds18_4]) rfl (Bk.below BK2.out (below_step (below_step (below_step HB7.out HB11.out) HB15.out) HB21.out)) (by kernel_rfl) rfl rfl ?_; intro W22 BK23 HB24 HK25; have z0_ := HB3.out.size; have z1_ := HG4.out; have z2_ := BK2.out.lt; have z3_ := HB7.out.size; have z4_ := HG8.out; have z5_ := BK6.out.lt; have z6_ := HB11.out.size; have z7_ := HG12.out; have z8_ := BK10.out.lt; have z9_ := HB15.out.size; have z10_ := HB21.out.size; have HB26 := Aside0.mk (below_at (below_step (below_step (below_step (below_step HB3.out HB7.out) HB11.out) HB15.out) HB21.out) HB24.out (by show w.heap.size ≤ g2; omega)); have HK27 := Aside0.mk (HK25.out); have F28 := Aside0.mk (StC.below HV0.out HB26.out); have F29 := Aside0.mk (BK23.out); have F30 := Aside0.mk (Bk.kept (Bk.below BK6.out (below_step (below_step HB11.out HB15.out) HB21.out)) HK27.out (fun h_ => (by obtain ⟨h1_, h2_⟩ := h_; omega))); have F31 := Aside0.mk (Bk.kept (Bk.below BK10.out (below_step HB15.out HB21.out)) HK27.out (fun h_ => (by obtain ⟨h1_, h2_⟩ := h_; omega))); have F32 := Aside0.mk (StR.kept HRs18.out HK27.out (fun k_ h_ => (by obtain ⟨h1_, h2_⟩ := h_; omega))); clear z0_ z1_ z2_ z3_ z4_ z5_ z6_ z7_ z8_ z9_ z10_) | ((with_reducible refine gate_dst (N := 13) rfl ?_); refine ev_load rfl (N := 13) rfl rfl (g := g3) rfl (cs := #[.int .i64 who, .int .i64 ep, .int .i64 num, .int .i64 obj, .int .i64 at_, .string data]) F30.out hu63 rfl (by kernel_rfl) ?_))
  refine (impl_formed_c HD.out HQ.out).mono ?_
  rintro e W33 ⟨rfl, hb34⟩
  have HB35 := Aside0.mk hb34
  clear hb34
  go_wp2_with (first | ((with_reducible refine gate_dst (N := 16) rfl ?_); refine ev_load rfl (N := 16) rfl rfl (g := g2) rfl (cs := #[.slice as18_0 s0.now.length ds18_0, .slice as18_1 s0.sure.length ds18_1, .slice as18_2 s0.last.length ds18_2, .slice as18_3 s0.slast.length ds18_3, .slice as18_4 s0.floors.length ds18_4]) (Bk.below F29.out HB35.out) hu25 rfl (by kernel_rfl) ?_) | ((with_reducible refine gate_store (t := 25) (p := 4) rfl ?_); refine ev_put (by rfl) rfl rfl (g := g4) rfl (cs := #[.slice as18_0 s0.now.length ds18_0, .slice as18_1 s0.sure.length ds18_1, .slice as18_2 s0.last.length ds18_2, .slice as18_3 s0.slast.length ds18_3, .slice as18_4 s0.floors.length ds18_4]) rfl (Bk.below F31.out HB35.out) (by kernel_rfl) rfl rfl ?_; intro W36 BK37 HB38 HK39; have z0_ := HB3.out.size; have z1_ := HG4.out; have z2_ := BK2.out.lt; have z3_ := HB7.out.size; have z4_ := HG8.out; have z5_ := BK6.out.lt; have z6_ := HB11.out.size; have z7_ := HG12.out; have z8_ := BK10.out.lt; have z9_ := HB15.out.size; have z10_ := HB21.out.size; have z11_ := HB26.out.size; have z12_ := HK27.out.1; have z13_ := HB35.out.size; have HB40 := Aside0.mk (below_at (below_step HB26.out HB35.out) HB38.out (by show w.heap.size ≤ g4; omega)); have HK41 := Aside0.mk (HK39.out); have F42 := Aside0.mk (StC.below HV0.out HB40.out); have F43 := Aside0.mk (Bk.kept (Bk.below F29.out HB35.out) HK41.out (fun h_ => (by obtain ⟨h1_, h2_⟩ := h_; omega))); have F44 := Aside0.mk (StR.kept (StR.below F32.out HB35.out) HK41.out (fun k_ h_ => (by obtain ⟨h1_, h2_⟩ := h_; omega))); have F45 := Aside0.mk (Bk.kept (Bk.below F30.out HB35.out) HK41.out (fun h_ => (by obtain ⟨h1_, h2_⟩ := h_; omega))); have F46 := Aside0.mk (BK37.out); clear z0_ z1_ z2_ z3_ z4_ z5_ z6_ z7_ z8_ z9_ z10_ z11_ z12_ z13_))
  try go_wp2
  refine bodyPost_ret (results_ct rfl _ _ g4 25 #[.slice as18_0 s0.now.length ds18_0, .slice as18_1 s0.sure.length ds18_1, .slice as18_2 s0.last.length ds18_2, .slice as18_3 s0.slast.length ds18_3, .slice as18_4 s0.floors.length ds18_4] (0, 0) _ rfl F46.out hu25 rfl (by kernel_rfl)) rfl ?_
  exact ⟨_, rfl, StR.widen F44.out (by have z0_ := HB3.out.size; have z1_ := HG4.out; have z2_ := BK2.out.lt; have z3_ := HB7.out.size; have z4_ := HG8.out; have z5_ := BK6.out.lt; have z6_ := HB11.out.size; have z7_ := HG12.out; have z8_ := BK10.out.lt; have z9_ := HB15.out.size; have z10_ := HB21.out.size; have z11_ := HB26.out.size; have z12_ := HK27.out.1; have z13_ := HB35.out.size; have z14_ := HB40.out.size; have z15_ := HK41.out.1; omega) (by have z0_ := HB3.out.size; have z1_ := HG4.out; have z2_ := BK2.out.lt; have z3_ := HB7.out.size; have z4_ := HG8.out; have z5_ := BK6.out.lt; have z6_ := HB11.out.size; have z7_ := HG12.out; have z8_ := BK10.out.lt; have z9_ := HB15.out.size; have z10_ := HB21.out.size; have z11_ := HB26.out.size; have z12_ := HK27.out.1; have z13_ := HB35.out.size; have z14_ := HB40.out.size; have z15_ := HK41.out.1; omega), HB40.out⟩
set_option maxHeartbeats 8000000 in
set_option maxRecDepth 100000 in
theorem impl_StoreDo_p2 {w : World} {v0 : Value} {s0 : St} (hv0 : StC w v0 s0) (hz0 : Sized s0) (hs0 : Small s0) (who ep num obj at_ : Int) (data : ByteArray) (hd : data.size ≤ 9223372036854775807) (b0 : 0 ≤ who) (b1 : who < s0.floors.length) (b2 : who < s0.last.length) (b3 : 0 ≤ obj) (b4 : obj < s0.now.length) (b5 : textOk (rdOf ByteArray.empty s0.now obj) = true) (hk : stOk s0 = true) (hq : reqOk ⟨who, ep, num, obj, at_, data⟩ = true) (h1 : ep < rd s0.floors who) :
    Calls Try.prog 44 #[v0, .agg #[.int .i64 who, .int .i64 ep, .int .i64 num, .int .i64 obj, .int .i64 at_, .string data]] w fun e w' => ∃ u, e = .returned (.tuple #[u, .int .i64 2]) ∧ StR w' w.heap.size w'.heap.size u s0 ∧ Below w.heap.size w w' := by
  have HV0 := Aside0.mk hv0
  have HZ0 := Aside0.mk hz0
  obtain ⟨A0_0, c0_0, A0_1, c0_1, A0_2, c0_2, A0_3, c0_3, A0_4, c0_4, rfl, _⟩ := hv0
  have HS0 := Aside0.mk hs0
  clear hz0 hs0
  have HK := Aside0.mk hk
  clear hk
  have hd1 : decide (ep < rd s0.floors who) = true := decide_eq_true h1
  clear h1
  have hb0 := eq_true b0
  have HN0 := Aside0.mk b0
  have hb1 := eq_true b1
  have HN1 := Aside0.mk b1
  have hb2 := eq_true b2
  have HN2 := Aside0.mk b2
  have hb3 := eq_true b3
  have HN3 := Aside0.mk b3
  have hb4 := eq_true b4
  have HN4 := Aside0.mk b4
  have HN5 := Aside0.mk b5
  clear b0 b1 b2 b3 b4 b5
  have HD := Aside0.mk hd
  have HQ := Aside0.mk hq
  clear hd hq
  have hu25 := Try.underlying25
  have hu63 := Try.underlying63
  go_enter Try.func44, Try.ntmps44
  go_wp2_with (first | ((with_reducible refine gate_dst (N := 2) rfl ?_); refine ev_box ?hg (N := 2) ?hd (cs := #[.slice A0_0 s0.now.length c0_0, .slice A0_1 s0.sure.length c0_1, .slice A0_2 s0.last.length c0_2, .slice A0_3 s0.slast.length c0_3, .slice A0_4 s0.floors.length c0_4]) (t := 25) ?hr ?_; (case hd => rfl); (case hg => rfl); (case hr => first | (go_simp; done) | (go_simp; rfl)); intro g2 W1 HG4 BK2 HB3) | ((with_reducible refine gate_dst (N := 3) rfl ?_); refine ev_box ?hg (N := 3) ?hd (cs := #[.int .i64 who, .int .i64 ep, .int .i64 num, .int .i64 obj, .int .i64 at_, .string data]) (t := 63) ?hr ?_; (case hd => rfl); (case hg => rfl); (case hr => first | (go_simp; done) | (go_simp; rfl)); intro g3 W5 HG8 BK6 HB7) | ((with_reducible refine gate_dst (N := 4) rfl ?_); refine ev_box ?hg (N := 4) ?hd (cs := #[.slice none 0 0, .slice none 0 0, .slice none 0 0, .slice none 0 0, .slice none 0 0]) (t := 25) ?hr ?_; (case hd => rfl); (case hg => rfl); (case hr => first | (go_simp; done) | (go_simp; rfl)); intro g4 W9 HG12 BK10 HB11) | ((with_reducible refine gate_dst (N := 6) rfl ?_); refine ev_load rfl (N := 6) rfl rfl (g := g2) rfl (cs := #[.slice A0_0 s0.now.length c0_0, .slice A0_1 s0.sure.length c0_1, .slice A0_2 s0.last.length c0_2, .slice A0_3 s0.slast.length c0_3, .slice A0_4 s0.floors.length c0_4]) (Bk.below BK2.out (below_step HB7.out HB11.out)) hu25 rfl (by kernel_rfl) ?_))
  refine (impl_StoreOk_q (StC.below HV0.out (below_step (below_step HB3.out HB7.out) HB11.out)) HZ0.out HK.out).mono ?_
  rintro e W13 ⟨rfl, hb14⟩
  have HB15 := Aside0.mk hb14
  clear hb14
  go_wp2_with (first | ((with_reducible refine gate_dst (N := 10) rfl ?_); refine ev_load rfl (N := 10) rfl rfl (g := g2) rfl (cs := #[.slice A0_0 s0.now.length c0_0, .slice A0_1 s0.sure.length c0_1, .slice A0_2 s0.last.length c0_2, .slice A0_3 s0.slast.length c0_3, .slice A0_4 s0.floors.length c0_4]) (Bk.below BK2.out (below_step (below_step HB7.out HB11.out) HB15.out)) hu25 rfl (by kernel_rfl) ?_))
  refine (impl_again_c (StC.below HV0.out (below_step (below_step (below_step HB3.out HB7.out) HB11.out) HB15.out)) HS0.out).mono ?_
  rintro e W19 ⟨u16, rfl, hr17, hb20⟩
  have HB21 := Aside0.mk hb20
  clear hb20
  have HRs18 := Aside0.mk hr17
  obtain ⟨as18_0, ds18_0, as18_1, ds18_1, as18_2, ds18_2, as18_3, ds18_3, as18_4, ds18_4, rfl, _⟩ := hr17.toC
  clear hr17
  obtain ⟨g22, rfl⟩ := StR.floors_form HRs18.out HN0.out HN1.out
  have GT23 := Aside0.mk (StR.floors_lt HRs18.out)
  have GL24 := Aside0.mk (StR.floors_cell HRs18.out HN0.out HN1.out).1
  have GH25 := Aside0.mk (StR.floors_cell HRs18.out HN0.out HN1.out).2.1
  obtain ⟨g26, rfl⟩ := StR.last_form HRs18.out HN0.out HN2.out
  have GT27 := Aside0.mk (StR.last_lt HRs18.out)
  have GL28 := Aside0.mk (StR.last_cell HRs18.out HN0.out HN2.out).1
  have GH29 := Aside0.mk (StR.last_cell HRs18.out HN0.out HN2.out).2.1
  obtain ⟨g30, rfl⟩ := StR.now_form HRs18.out HN3.out HN4.out
  have GT31 := Aside0.mk (StR.now_lt HRs18.out)
  have GL32 := Aside0.mk (StR.now_cell HRs18.out HN3.out HN4.out).1
  have GH33 := Aside0.mk (StR.now_cell HRs18.out HN3.out HN4.out).2.1
  go_wp2_with (first | ((with_reducible refine gate_store (t := 25) (p := 2) rfl ?_); refine ev_put (by rfl) rfl rfl (g := g2) rfl (cs := #[.slice (some ⟨g30, 0, none⟩) s0.now.length ds18_0, .slice as18_1 s0.sure.length ds18_1, .slice (some ⟨g26, 0, none⟩) s0.last.length ds18_2, .slice as18_3 s0.slast.length ds18_3, .slice (some ⟨g22, 0, none⟩) s0.floors.length ds18_4]) rfl (Bk.below BK2.out (below_step (below_step (below_step HB7.out HB11.out) HB15.out) HB21.out)) (by kernel_rfl) rfl rfl ?_; intro W34 BK35 HB36 HK37; have z0_ := HB3.out.size; have z1_ := HG4.out; have z2_ := BK2.out.lt; have z3_ := HB7.out.size; have z4_ := HG8.out; have z5_ := BK6.out.lt; have z6_ := HB11.out.size; have z7_ := HG12.out; have z8_ := BK10.out.lt; have z9_ := HB15.out.size; have z10_ := HB21.out.size; have z11_ := GT23.out; have z12_ := GL24.out; have z13_ := GH25.out; have z14_ := GT27.out; have z15_ := GL28.out; have z16_ := GH29.out; have z17_ := GT31.out; have z18_ := GL32.out; have z19_ := GH33.out; have HB38 := Aside0.mk (below_at (below_step (below_step (below_step (below_step HB3.out HB7.out) HB11.out) HB15.out) HB21.out) HB36.out (by show w.heap.size ≤ g2; omega)); have HK39 := Aside0.mk (HK37.out); have F40 := Aside0.mk (StC.below HV0.out HB38.out); have F41 := Aside0.mk (BK35.out); have F42 := Aside0.mk (Bk.kept (Bk.below BK6.out (below_step (below_step HB11.out HB15.out) HB21.out)) HK39.out (fun h_ => (by obtain ⟨h1_, h2_⟩ := h_; omega))); have F43 := Aside0.mk (Bk.kept (Bk.below BK10.out (below_step HB15.out HB21.out)) HK39.out (fun h_ => (by obtain ⟨h1_, h2_⟩ := h_; omega))); have F44 := Aside0.mk (StR.kept HRs18.out HK39.out (fun k_ h_ => (by obtain ⟨h1_, h2_⟩ := h_; omega))); clear z0_ z1_ z2_ z3_ z4_ z5_ z6_ z7_ z8_ z9_ z10_ z11_ z12_ z13_ z14_ z15_ z16_ z17_ z18_ z19_) | ((with_reducible refine gate_dst (N := 13) rfl ?_); refine ev_load rfl (N := 13) rfl rfl (g := g3) rfl (cs := #[.int .i64 who, .int .i64 ep, .int .i64 num, .int .i64 obj, .int .i64 at_, .string data]) F42.out hu63 rfl (by kernel_rfl) ?_))
  refine (impl_formed_c HD.out HQ.out).mono ?_
  rintro e W45 ⟨rfl, hb46⟩
  have HB47 := Aside0.mk hb46
  clear hb46
  go_wp2_with (fail)
  refine start_ (n := 10) (S := fun w' => Bk w' g3 #[.int .i64 who, .int .i64 ep, .int .i64 num, .int .i64 obj, .int .i64 at_, .string data] 63 ∧ Bk w' g2 #[.slice (some ⟨g30, 0, none⟩) s0.now.length ds18_0, .slice as18_1 s0.sure.length ds18_1, .slice (some ⟨g26, 0, none⟩) s0.last.length ds18_2, .slice as18_3 s0.slast.length ds18_3, .slice (some ⟨g22, 0, none⟩) s0.floors.length ds18_4] 25 ∧ w'.cell? ⟨g22, who.toNat, none⟩ = some (.int .i64 (rd s0.floors who))) (ds := []) #[false, false, false, false, false, false, false, false, false, false] (by kernel_rfl) rfl rfl ⟨(show Bk W45 g3 #[.int .i64 who, .int .i64 ep, .int .i64 num, .int .i64 obj, .int .i64 at_, .string data] 63 from (Bk.below F42.out HB47.out)), (show Bk W45 g2 #[.slice (some ⟨g30, 0, none⟩) s0.now.length ds18_0, .slice as18_1 s0.sure.length ds18_1, .slice (some ⟨g26, 0, none⟩) s0.last.length ds18_2, .slice as18_3 s0.slast.length ds18_3, .slice (some ⟨g22, 0, none⟩) s0.floors.length ds18_4] 25 from (Bk.below F41.out HB47.out)), (StR.floors_cell (StR.below F44.out HB47.out) HN0.out HN1.out).2.2.1⟩ (fun hHeld => ?_)
  clear hHeld
  refine world_at (w := W45) (below_drew0 _) (fun W48 HB49 => ?_)
  refine pure_ (i := 0) (N := some 18) (v := ?_) (a' := ?_) #[true, false, false, false, false, false, false, false, false, false] rfl rfl (by kernel_rfl) (fun _ _ _ h => h) (Or.inl ⟨by rfl, ?_⟩) ?_ ?_
  rotate_left
  · intro w'
    go_simp
    with_reducible rfl
  rotate_left
  · simp only [Act.put, List.setIfInBounds_toArray, List.set_cons_zero, List.set_cons_succ, i64_w, i32_w]
    rfl
  refine take_ (i := 1) (N := some 19) (v := .int .i64 ep) (a' := ?_) #[true, true, false, false, false, false, false, false, false, false] rfl rfl (by kernel_rfl) (fun _ _ _ h => h) (Or.inl ⟨by rfl, ?_⟩) ⟨(Bk.below F42.out (below_step HB47.out HB49.out)), (Bk.below F41.out (below_step HB47.out HB49.out)), (StR.floors_cell (StR.below F44.out (below_step HB47.out HB49.out)) HN0.out HN1.out).2.2.1⟩ ?_ ?_
  · rintro w' ⟨s0_, s1_, s2_⟩
    have hc_ : w'.cell? ⟨g3, 1, none⟩ = some (.int .i64 ep) := (Bk.cell s0_ 1).trans rfl
    first | (go_simp; done) | (go_simp; with_reducible rfl) | (go_simp; rfl)
  rotate_left
  · simp only [Act.put, List.setIfInBounds_toArray, List.set_cons_zero, List.set_cons_succ, i64_w, i32_w]
    rfl
  refine pure_ (i := 2) (N := some 20) (v := ?_) (a' := ?_) #[true, true, true, false, false, false, false, false, false, false] rfl rfl (by kernel_rfl) (fun _ _ _ h => h) (Or.inl ⟨by rfl, ?_⟩) ?_ ?_
  rotate_left
  · intro w'
    go_simp
    with_reducible rfl
  rotate_left
  · simp only [Act.put, List.setIfInBounds_toArray, List.set_cons_zero, List.set_cons_succ, i64_w, i32_w]
    rfl
  refine take_ (i := 3) (N := some 21) (v := .slice (some ⟨g22, 0, none⟩) s0.floors.length ds18_4) (a' := ?_) #[true, true, true, true, false, false, false, false, false, false] rfl rfl (by kernel_rfl) (fun _ _ _ h => h) (Or.inl ⟨by rfl, ?_⟩) ⟨(Bk.below F42.out (below_step HB47.out HB49.out)), (Bk.below F41.out (below_step HB47.out HB49.out)), (StR.floors_cell (StR.below F44.out (below_step HB47.out HB49.out)) HN0.out HN1.out).2.2.1⟩ ?_ ?_
  · rintro w' ⟨s0_, s1_, s2_⟩
    have hc_ : w'.cell? ⟨g2, 4, none⟩ = some (.slice (some ⟨g22, 0, none⟩) s0.floors.length ds18_4) := (Bk.cell s1_ 4).trans rfl
    first | (go_simp; done) | (go_simp; with_reducible rfl) | (go_simp; rfl)
  rotate_left
  · simp only [Act.put, List.setIfInBounds_toArray, List.set_cons_zero, List.set_cons_succ, i64_w, i32_w]
    rfl
  refine pure_ (i := 4) (N := some 22) (v := ?_) (a' := ?_) #[true, true, true, true, true, false, false, false, false, false] rfl rfl (by kernel_rfl) (fun _ _ _ h => h) (Or.inl ⟨by rfl, ?_⟩) ?_ ?_
  rotate_left
  · intro w'
    go_simp
    with_reducible rfl
  rotate_left
  · simp only [Act.put, List.setIfInBounds_toArray, List.set_cons_zero, List.set_cons_succ, i64_w, i32_w]
    rfl
  refine take_ (i := 5) (N := some 23) (v := .int .i64 who) (a' := ?_) #[true, true, true, true, true, true, false, false, false, false] rfl rfl (by kernel_rfl) (fun _ _ _ h => h) (Or.inl ⟨by rfl, ?_⟩) ⟨(Bk.below F42.out (below_step HB47.out HB49.out)), (Bk.below F41.out (below_step HB47.out HB49.out)), (StR.floors_cell (StR.below F44.out (below_step HB47.out HB49.out)) HN0.out HN1.out).2.2.1⟩ ?_ ?_
  · rintro w' ⟨s0_, s1_, s2_⟩
    have hc_ : w'.cell? ⟨g3, 0, none⟩ = some (.int .i64 who) := (Bk.cell s0_ 0).trans rfl
    first | (go_simp; done) | (go_simp; with_reducible rfl) | (go_simp; rfl)
  rotate_left
  · simp only [Act.put, List.setIfInBounds_toArray, List.set_cons_zero, List.set_cons_succ, i64_w, i32_w]
    rfl
  refine pure_ (i := 6) (N := some 24) (v := ?_) (a' := ?_) #[true, true, true, true, true, true, true, false, false, false] rfl rfl (by kernel_rfl) (fun _ _ _ h => h) (Or.inl ⟨by rfl, ?_⟩) ?_ ?_
  rotate_left
  · intro w'
    go_simp
    with_reducible rfl
  rotate_left
  · simp only [Act.put, List.setIfInBounds_toArray, List.set_cons_zero, List.set_cons_succ, i64_w, i32_w]
    rfl
  refine take_ (i := 7) (N := some 25) (v := .int .i64 (rd s0.floors who)) (a' := ?_) #[true, true, true, true, true, true, true, true, false, false] rfl rfl (by kernel_rfl) (fun _ _ _ h => h) (Or.inl ⟨by rfl, ?_⟩) ⟨(Bk.below F42.out (below_step HB47.out HB49.out)), (Bk.below F41.out (below_step HB47.out HB49.out)), (StR.floors_cell (StR.below F44.out (below_step HB47.out HB49.out)) HN0.out HN1.out).2.2.1⟩ ?_ ?_
  · rintro w' ⟨s0_, s1_, s2_⟩
    first | (go_simp; done) | (go_simp; with_reducible rfl) | (go_simp; rfl)
  rotate_left
  · simp only [Act.put, List.setIfInBounds_toArray, List.set_cons_zero, List.set_cons_succ, i64_w, i32_w]
    rfl
  refine pure_ (i := 8) (N := some 26) (v := ?_) (a' := ?_) #[true, true, true, true, true, true, true, true, true, false] rfl rfl (by kernel_rfl) (fun _ _ _ h => h) (Or.inl ⟨by rfl, ?_⟩) ?_ ?_
  rotate_left
  · intro w'
    go_simp
    with_reducible rfl
  rotate_left
  · simp only [Act.put, List.setIfInBounds_toArray, List.set_cons_zero, List.set_cons_succ, i64_w, i32_w]
    rfl
  refine pure_ (i := 9) (N := some 17) (v := ?_) (a' := ?_) #[true, true, true, true, true, true, true, true, true, true] rfl rfl (by kernel_rfl) (fun _ _ _ h => h) (Or.inl ⟨by rfl, ?_⟩) ?_ ?_
  rotate_left
  · intro w'
    go_simp
    with_reducible rfl
  rotate_left
  · simp only [Act.put, List.setIfInBounds_toArray, List.set_cons_zero, List.set_cons_succ, i64_w, i32_w]
    rfl
  refine done_ (by kernel_rfl) ?_
  go_wp2_with (first | ((with_reducible refine gate_dst (N := 27) rfl ?_); refine ev_load rfl (N := 27) rfl rfl (g := g2) rfl (cs := #[.slice (some ⟨g30, 0, none⟩) s0.now.length ds18_0, .slice as18_1 s0.sure.length ds18_1, .slice (some ⟨g26, 0, none⟩) s0.last.length ds18_2, .slice as18_3 s0.slast.length ds18_3, .slice (some ⟨g22, 0, none⟩) s0.floors.length ds18_4]) (Bk.below F41.out (below_step HB47.out HB49.out)) hu25 rfl (by kernel_rfl) ?_) | ((with_reducible refine gate_store (t := 25) (p := 4) rfl ?_); refine ev_put (by rfl) rfl rfl (g := g4) rfl (cs := #[.slice (some ⟨g30, 0, none⟩) s0.now.length ds18_0, .slice as18_1 s0.sure.length ds18_1, .slice (some ⟨g26, 0, none⟩) s0.last.length ds18_2, .slice as18_3 s0.slast.length ds18_3, .slice (some ⟨g22, 0, none⟩) s0.floors.length ds18_4]) rfl (Bk.below F43.out (below_step HB47.out HB49.out)) (by kernel_rfl) rfl rfl ?_; intro W50 BK51 HB52 HK53; have z0_ := HB3.out.size; have z1_ := HG4.out; have z2_ := BK2.out.lt; have z3_ := HB7.out.size; have z4_ := HG8.out; have z5_ := BK6.out.lt; have z6_ := HB11.out.size; have z7_ := HG12.out; have z8_ := BK10.out.lt; have z9_ := HB15.out.size; have z10_ := HB21.out.size; have z11_ := GT23.out; have z12_ := GL24.out; have z13_ := GH25.out; have z14_ := GT27.out; have z15_ := GL28.out; have z16_ := GH29.out; have z17_ := GT31.out; have z18_ := GL32.out; have z19_ := GH33.out; have z20_ := HB38.out.size; have z21_ := HK39.out.1; have z22_ := HB47.out.size; have z23_ := HB49.out.size; have HB54 := Aside0.mk (below_at (below_step HB38.out (below_step HB47.out HB49.out)) HB52.out (by show w.heap.size ≤ g4; omega)); have HK55 := Aside0.mk (HK53.out); have F56 := Aside0.mk (StC.below HV0.out HB54.out); have F57 := Aside0.mk (Bk.kept (Bk.below F41.out (below_step HB47.out HB49.out)) HK55.out (fun h_ => (by obtain ⟨h1_, h2_⟩ := h_; omega))); have F58 := Aside0.mk (StR.kept (StR.below F44.out (below_step HB47.out HB49.out)) HK55.out (fun k_ h_ => (by obtain ⟨h1_, h2_⟩ := h_; omega))); have F59 := Aside0.mk (Bk.kept (Bk.below F42.out (below_step HB47.out HB49.out)) HK55.out (fun h_ => (by obtain ⟨h1_, h2_⟩ := h_; omega))); have F60 := Aside0.mk (BK51.out); clear z0_ z1_ z2_ z3_ z4_ z5_ z6_ z7_ z8_ z9_ z10_ z11_ z12_ z13_ z14_ z15_ z16_ z17_ z18_ z19_ z20_ z21_ z22_ z23_))
  try go_wp2
  refine bodyPost_ret (results_ct rfl _ _ g4 25 #[.slice (some ⟨g30, 0, none⟩) s0.now.length ds18_0, .slice as18_1 s0.sure.length ds18_1, .slice (some ⟨g26, 0, none⟩) s0.last.length ds18_2, .slice as18_3 s0.slast.length ds18_3, .slice (some ⟨g22, 0, none⟩) s0.floors.length ds18_4] (0, 0) _ rfl F60.out hu25 rfl (by kernel_rfl)) rfl ?_
  exact ⟨_, rfl, StR.widen F58.out (by have z0_ := HB3.out.size; have z1_ := HG4.out; have z2_ := BK2.out.lt; have z3_ := HB7.out.size; have z4_ := HG8.out; have z5_ := BK6.out.lt; have z6_ := HB11.out.size; have z7_ := HG12.out; have z8_ := BK10.out.lt; have z9_ := HB15.out.size; have z10_ := HB21.out.size; have z11_ := GT23.out; have z12_ := GL24.out; have z13_ := GH25.out; have z14_ := GT27.out; have z15_ := GL28.out; have z16_ := GH29.out; have z17_ := GT31.out; have z18_ := GL32.out; have z19_ := GH33.out; have z20_ := HB38.out.size; have z21_ := HK39.out.1; have z22_ := HB47.out.size; have z23_ := HB49.out.size; have z24_ := HB54.out.size; have z25_ := HK55.out.1; omega) (by have z0_ := HB3.out.size; have z1_ := HG4.out; have z2_ := BK2.out.lt; have z3_ := HB7.out.size; have z4_ := HG8.out; have z5_ := BK6.out.lt; have z6_ := HB11.out.size; have z7_ := HG12.out; have z8_ := BK10.out.lt; have z9_ := HB15.out.size; have z10_ := HB21.out.size; have z11_ := GT23.out; have z12_ := GL24.out; have z13_ := GH25.out; have z14_ := GT27.out; have z15_ := GL28.out; have z16_ := GH29.out; have z17_ := GT31.out; have z18_ := GL32.out; have z19_ := GH33.out; have z20_ := HB38.out.size; have z21_ := HK39.out.1; have z22_ := HB47.out.size; have z23_ := HB49.out.size; have z24_ := HB54.out.size; have z25_ := HK55.out.1; omega), HB54.out⟩
set_option maxHeartbeats 8000000 in
set_option maxRecDepth 100000 in
theorem impl_StoreDo_p3 {w : World} {v0 : Value} {s0 : St} (hv0 : StC w v0 s0) (hz0 : Sized s0) (hs0 : Small s0) (who ep num obj at_ : Int) (data : ByteArray) (hd : data.size ≤ 9223372036854775807) (b0 : 0 ≤ who) (b1 : who < s0.floors.length) (b2 : who < s0.last.length) (b3 : 0 ≤ obj) (b4 : obj < s0.now.length) (b5 : textOk (rdOf ByteArray.empty s0.now obj) = true) (hk : stOk s0 = true) (hq : reqOk ⟨who, ep, num, obj, at_, data⟩ = true) (h1 : ¬ ep < rd s0.floors who) (h2 : num ≤ rd s0.last who) :
    Calls Try.prog 44 #[v0, .agg #[.int .i64 who, .int .i64 ep, .int .i64 num, .int .i64 obj, .int .i64 at_, .string data]] w fun e w' => ∃ u, e = .returned (.tuple #[u, .int .i64 3]) ∧ StR w' w.heap.size w'.heap.size u s0 ∧ Below w.heap.size w w' := by
  have HV0 := Aside0.mk hv0
  have HZ0 := Aside0.mk hz0
  obtain ⟨A0_0, c0_0, A0_1, c0_1, A0_2, c0_2, A0_3, c0_3, A0_4, c0_4, rfl, _⟩ := hv0
  have HS0 := Aside0.mk hs0
  clear hz0 hs0
  have HK := Aside0.mk hk
  clear hk
  have hd1 : decide (ep < rd s0.floors who) = false := decide_eq_false h1
  have hd2 : decide (num ≤ rd s0.last who) = true := decide_eq_true h2
  clear h1 h2
  have hb0 := eq_true b0
  have HN0 := Aside0.mk b0
  have hb1 := eq_true b1
  have HN1 := Aside0.mk b1
  have hb2 := eq_true b2
  have HN2 := Aside0.mk b2
  have hb3 := eq_true b3
  have HN3 := Aside0.mk b3
  have hb4 := eq_true b4
  have HN4 := Aside0.mk b4
  have HN5 := Aside0.mk b5
  clear b0 b1 b2 b3 b4 b5
  have HD := Aside0.mk hd
  have HQ := Aside0.mk hq
  clear hd hq
  have hu25 := Try.underlying25
  have hu63 := Try.underlying63
  go_enter Try.func44, Try.ntmps44
  go_wp2_with (first | ((with_reducible refine gate_dst (N := 2) rfl ?_); refine ev_box ?hg (N := 2) ?hd (cs := #[.slice A0_0 s0.now.length c0_0, .slice A0_1 s0.sure.length c0_1, .slice A0_2 s0.last.length c0_2, .slice A0_3 s0.slast.length c0_3, .slice A0_4 s0.floors.length c0_4]) (t := 25) ?hr ?_; (case hd => rfl); (case hg => rfl); (case hr => first | (go_simp; done) | (go_simp; rfl)); intro g2 W1 HG4 BK2 HB3) | ((with_reducible refine gate_dst (N := 3) rfl ?_); refine ev_box ?hg (N := 3) ?hd (cs := #[.int .i64 who, .int .i64 ep, .int .i64 num, .int .i64 obj, .int .i64 at_, .string data]) (t := 63) ?hr ?_; (case hd => rfl); (case hg => rfl); (case hr => first | (go_simp; done) | (go_simp; rfl)); intro g3 W5 HG8 BK6 HB7) | ((with_reducible refine gate_dst (N := 4) rfl ?_); refine ev_box ?hg (N := 4) ?hd (cs := #[.slice none 0 0, .slice none 0 0, .slice none 0 0, .slice none 0 0, .slice none 0 0]) (t := 25) ?hr ?_; (case hd => rfl); (case hg => rfl); (case hr => first | (go_simp; done) | (go_simp; rfl)); intro g4 W9 HG12 BK10 HB11) | ((with_reducible refine gate_dst (N := 6) rfl ?_); refine ev_load rfl (N := 6) rfl rfl (g := g2) rfl (cs := #[.slice A0_0 s0.now.length c0_0, .slice A0_1 s0.sure.length c0_1, .slice A0_2 s0.last.length c0_2, .slice A0_3 s0.slast.length c0_3, .slice A0_4 s0.floors.length c0_4]) (Bk.below BK2.out (below_step HB7.out HB11.out)) hu25 rfl (by kernel_rfl) ?_))
  refine (impl_StoreOk_q (StC.below HV0.out (below_step (below_step HB3.out HB7.out) HB11.out)) HZ0.out HK.out).mono ?_
  rintro e W13 ⟨rfl, hb14⟩
  have HB15 := Aside0.mk hb14
  clear hb14
  go_wp2_with (first | ((with_reducible refine gate_dst (N := 10) rfl ?_); refine ev_load rfl (N := 10) rfl rfl (g := g2) rfl (cs := #[.slice A0_0 s0.now.length c0_0, .slice A0_1 s0.sure.length c0_1, .slice A0_2 s0.last.length c0_2, .slice A0_3 s0.slast.length c0_3, .slice A0_4 s0.floors.length c0_4]) (Bk.below BK2.out (below_step (below_step HB7.out HB11.out) HB15.out)) hu25 rfl (by kernel_rfl) ?_))
  refine (impl_again_c (StC.below HV0.out (below_step (below_step (below_step HB3.out HB7.out) HB11.out) HB15.out)) HS0.out).mono ?_
  rintro e W19 ⟨u16, rfl, hr17, hb20⟩
  have HB21 := Aside0.mk hb20
  clear hb20
  have HRs18 := Aside0.mk hr17
  obtain ⟨as18_0, ds18_0, as18_1, ds18_1, as18_2, ds18_2, as18_3, ds18_3, as18_4, ds18_4, rfl, _⟩ := hr17.toC
  clear hr17
  obtain ⟨g22, rfl⟩ := StR.floors_form HRs18.out HN0.out HN1.out
  have GT23 := Aside0.mk (StR.floors_lt HRs18.out)
  have GL24 := Aside0.mk (StR.floors_cell HRs18.out HN0.out HN1.out).1
  have GH25 := Aside0.mk (StR.floors_cell HRs18.out HN0.out HN1.out).2.1
  obtain ⟨g26, rfl⟩ := StR.last_form HRs18.out HN0.out HN2.out
  have GT27 := Aside0.mk (StR.last_lt HRs18.out)
  have GL28 := Aside0.mk (StR.last_cell HRs18.out HN0.out HN2.out).1
  have GH29 := Aside0.mk (StR.last_cell HRs18.out HN0.out HN2.out).2.1
  obtain ⟨g30, rfl⟩ := StR.now_form HRs18.out HN3.out HN4.out
  have GT31 := Aside0.mk (StR.now_lt HRs18.out)
  have GL32 := Aside0.mk (StR.now_cell HRs18.out HN3.out HN4.out).1
  have GH33 := Aside0.mk (StR.now_cell HRs18.out HN3.out HN4.out).2.1
  go_wp2_with (first | ((with_reducible refine gate_store (t := 25) (p := 2) rfl ?_); refine ev_put (by rfl) rfl rfl (g := g2) rfl (cs := #[.slice (some ⟨g30, 0, none⟩) s0.now.length ds18_0, .slice as18_1 s0.sure.length ds18_1, .slice (some ⟨g26, 0, none⟩) s0.last.length ds18_2, .slice as18_3 s0.slast.length ds18_3, .slice (some ⟨g22, 0, none⟩) s0.floors.length ds18_4]) rfl (Bk.below BK2.out (below_step (below_step (below_step HB7.out HB11.out) HB15.out) HB21.out)) (by kernel_rfl) rfl rfl ?_; intro W34 BK35 HB36 HK37; have z0_ := HB3.out.size; have z1_ := HG4.out; have z2_ := BK2.out.lt; have z3_ := HB7.out.size; have z4_ := HG8.out; have z5_ := BK6.out.lt; have z6_ := HB11.out.size; have z7_ := HG12.out; have z8_ := BK10.out.lt; have z9_ := HB15.out.size; have z10_ := HB21.out.size; have z11_ := GT23.out; have z12_ := GL24.out; have z13_ := GH25.out; have z14_ := GT27.out; have z15_ := GL28.out; have z16_ := GH29.out; have z17_ := GT31.out; have z18_ := GL32.out; have z19_ := GH33.out; have HB38 := Aside0.mk (below_at (below_step (below_step (below_step (below_step HB3.out HB7.out) HB11.out) HB15.out) HB21.out) HB36.out (by show w.heap.size ≤ g2; omega)); have HK39 := Aside0.mk (HK37.out); have F40 := Aside0.mk (StC.below HV0.out HB38.out); have F41 := Aside0.mk (BK35.out); have F42 := Aside0.mk (Bk.kept (Bk.below BK6.out (below_step (below_step HB11.out HB15.out) HB21.out)) HK39.out (fun h_ => (by obtain ⟨h1_, h2_⟩ := h_; omega))); have F43 := Aside0.mk (Bk.kept (Bk.below BK10.out (below_step HB15.out HB21.out)) HK39.out (fun h_ => (by obtain ⟨h1_, h2_⟩ := h_; omega))); have F44 := Aside0.mk (StR.kept HRs18.out HK39.out (fun k_ h_ => (by obtain ⟨h1_, h2_⟩ := h_; omega))); clear z0_ z1_ z2_ z3_ z4_ z5_ z6_ z7_ z8_ z9_ z10_ z11_ z12_ z13_ z14_ z15_ z16_ z17_ z18_ z19_) | ((with_reducible refine gate_dst (N := 13) rfl ?_); refine ev_load rfl (N := 13) rfl rfl (g := g3) rfl (cs := #[.int .i64 who, .int .i64 ep, .int .i64 num, .int .i64 obj, .int .i64 at_, .string data]) F42.out hu63 rfl (by kernel_rfl) ?_))
  refine (impl_formed_c HD.out HQ.out).mono ?_
  rintro e W45 ⟨rfl, hb46⟩
  have HB47 := Aside0.mk hb46
  clear hb46
  go_wp2_with (fail)
  refine start_ (n := 10) (S := fun w' => Bk w' g3 #[.int .i64 who, .int .i64 ep, .int .i64 num, .int .i64 obj, .int .i64 at_, .string data] 63 ∧ Bk w' g2 #[.slice (some ⟨g30, 0, none⟩) s0.now.length ds18_0, .slice as18_1 s0.sure.length ds18_1, .slice (some ⟨g26, 0, none⟩) s0.last.length ds18_2, .slice as18_3 s0.slast.length ds18_3, .slice (some ⟨g22, 0, none⟩) s0.floors.length ds18_4] 25 ∧ w'.cell? ⟨g22, who.toNat, none⟩ = some (.int .i64 (rd s0.floors who))) (ds := []) #[false, false, false, false, false, false, false, false, false, false] (by kernel_rfl) rfl rfl ⟨(show Bk W45 g3 #[.int .i64 who, .int .i64 ep, .int .i64 num, .int .i64 obj, .int .i64 at_, .string data] 63 from (Bk.below F42.out HB47.out)), (show Bk W45 g2 #[.slice (some ⟨g30, 0, none⟩) s0.now.length ds18_0, .slice as18_1 s0.sure.length ds18_1, .slice (some ⟨g26, 0, none⟩) s0.last.length ds18_2, .slice as18_3 s0.slast.length ds18_3, .slice (some ⟨g22, 0, none⟩) s0.floors.length ds18_4] 25 from (Bk.below F41.out HB47.out)), (StR.floors_cell (StR.below F44.out HB47.out) HN0.out HN1.out).2.2.1⟩ (fun hHeld => ?_)
  clear hHeld
  refine world_at (w := W45) (below_drew0 _) (fun W48 HB49 => ?_)
  refine pure_ (i := 0) (N := some 18) (v := ?_) (a' := ?_) #[true, false, false, false, false, false, false, false, false, false] rfl rfl (by kernel_rfl) (fun _ _ _ h => h) (Or.inl ⟨by rfl, ?_⟩) ?_ ?_
  rotate_left
  · intro w'
    go_simp
    with_reducible rfl
  rotate_left
  · simp only [Act.put, List.setIfInBounds_toArray, List.set_cons_zero, List.set_cons_succ, i64_w, i32_w]
    rfl
  refine take_ (i := 1) (N := some 19) (v := .int .i64 ep) (a' := ?_) #[true, true, false, false, false, false, false, false, false, false] rfl rfl (by kernel_rfl) (fun _ _ _ h => h) (Or.inl ⟨by rfl, ?_⟩) ⟨(Bk.below F42.out (below_step HB47.out HB49.out)), (Bk.below F41.out (below_step HB47.out HB49.out)), (StR.floors_cell (StR.below F44.out (below_step HB47.out HB49.out)) HN0.out HN1.out).2.2.1⟩ ?_ ?_
  · rintro w' ⟨s0_, s1_, s2_⟩
    have hc_ : w'.cell? ⟨g3, 1, none⟩ = some (.int .i64 ep) := (Bk.cell s0_ 1).trans rfl
    first | (go_simp; done) | (go_simp; with_reducible rfl) | (go_simp; rfl)
  rotate_left
  · simp only [Act.put, List.setIfInBounds_toArray, List.set_cons_zero, List.set_cons_succ, i64_w, i32_w]
    rfl
  refine pure_ (i := 2) (N := some 20) (v := ?_) (a' := ?_) #[true, true, true, false, false, false, false, false, false, false] rfl rfl (by kernel_rfl) (fun _ _ _ h => h) (Or.inl ⟨by rfl, ?_⟩) ?_ ?_
  rotate_left
  · intro w'
    go_simp
    with_reducible rfl
  rotate_left
  · simp only [Act.put, List.setIfInBounds_toArray, List.set_cons_zero, List.set_cons_succ, i64_w, i32_w]
    rfl
  refine take_ (i := 3) (N := some 21) (v := .slice (some ⟨g22, 0, none⟩) s0.floors.length ds18_4) (a' := ?_) #[true, true, true, true, false, false, false, false, false, false] rfl rfl (by kernel_rfl) (fun _ _ _ h => h) (Or.inl ⟨by rfl, ?_⟩) ⟨(Bk.below F42.out (below_step HB47.out HB49.out)), (Bk.below F41.out (below_step HB47.out HB49.out)), (StR.floors_cell (StR.below F44.out (below_step HB47.out HB49.out)) HN0.out HN1.out).2.2.1⟩ ?_ ?_
  · rintro w' ⟨s0_, s1_, s2_⟩
    have hc_ : w'.cell? ⟨g2, 4, none⟩ = some (.slice (some ⟨g22, 0, none⟩) s0.floors.length ds18_4) := (Bk.cell s1_ 4).trans rfl
    first | (go_simp; done) | (go_simp; with_reducible rfl) | (go_simp; rfl)
  rotate_left
  · simp only [Act.put, List.setIfInBounds_toArray, List.set_cons_zero, List.set_cons_succ, i64_w, i32_w]
    rfl
  refine pure_ (i := 4) (N := some 22) (v := ?_) (a' := ?_) #[true, true, true, true, true, false, false, false, false, false] rfl rfl (by kernel_rfl) (fun _ _ _ h => h) (Or.inl ⟨by rfl, ?_⟩) ?_ ?_
  rotate_left
  · intro w'
    go_simp
    with_reducible rfl
  rotate_left
  · simp only [Act.put, List.setIfInBounds_toArray, List.set_cons_zero, List.set_cons_succ, i64_w, i32_w]
    rfl
  refine take_ (i := 5) (N := some 23) (v := .int .i64 who) (a' := ?_) #[true, true, true, true, true, true, false, false, false, false] rfl rfl (by kernel_rfl) (fun _ _ _ h => h) (Or.inl ⟨by rfl, ?_⟩) ⟨(Bk.below F42.out (below_step HB47.out HB49.out)), (Bk.below F41.out (below_step HB47.out HB49.out)), (StR.floors_cell (StR.below F44.out (below_step HB47.out HB49.out)) HN0.out HN1.out).2.2.1⟩ ?_ ?_
  · rintro w' ⟨s0_, s1_, s2_⟩
    have hc_ : w'.cell? ⟨g3, 0, none⟩ = some (.int .i64 who) := (Bk.cell s0_ 0).trans rfl
    first | (go_simp; done) | (go_simp; with_reducible rfl) | (go_simp; rfl)
  rotate_left
  · simp only [Act.put, List.setIfInBounds_toArray, List.set_cons_zero, List.set_cons_succ, i64_w, i32_w]
    rfl
  refine pure_ (i := 6) (N := some 24) (v := ?_) (a' := ?_) #[true, true, true, true, true, true, true, false, false, false] rfl rfl (by kernel_rfl) (fun _ _ _ h => h) (Or.inl ⟨by rfl, ?_⟩) ?_ ?_
  rotate_left
  · intro w'
    go_simp
    with_reducible rfl
  rotate_left
  · simp only [Act.put, List.setIfInBounds_toArray, List.set_cons_zero, List.set_cons_succ, i64_w, i32_w]
    rfl
  refine take_ (i := 7) (N := some 25) (v := .int .i64 (rd s0.floors who)) (a' := ?_) #[true, true, true, true, true, true, true, true, false, false] rfl rfl (by kernel_rfl) (fun _ _ _ h => h) (Or.inl ⟨by rfl, ?_⟩) ⟨(Bk.below F42.out (below_step HB47.out HB49.out)), (Bk.below F41.out (below_step HB47.out HB49.out)), (StR.floors_cell (StR.below F44.out (below_step HB47.out HB49.out)) HN0.out HN1.out).2.2.1⟩ ?_ ?_
  · rintro w' ⟨s0_, s1_, s2_⟩
    first | (go_simp; done) | (go_simp; with_reducible rfl) | (go_simp; rfl)
  rotate_left
  · simp only [Act.put, List.setIfInBounds_toArray, List.set_cons_zero, List.set_cons_succ, i64_w, i32_w]
    rfl
  refine pure_ (i := 8) (N := some 26) (v := ?_) (a' := ?_) #[true, true, true, true, true, true, true, true, true, false] rfl rfl (by kernel_rfl) (fun _ _ _ h => h) (Or.inl ⟨by rfl, ?_⟩) ?_ ?_
  rotate_left
  · intro w'
    go_simp
    with_reducible rfl
  rotate_left
  · simp only [Act.put, List.setIfInBounds_toArray, List.set_cons_zero, List.set_cons_succ, i64_w, i32_w]
    rfl
  refine pure_ (i := 9) (N := some 17) (v := ?_) (a' := ?_) #[true, true, true, true, true, true, true, true, true, true] rfl rfl (by kernel_rfl) (fun _ _ _ h => h) (Or.inl ⟨by rfl, ?_⟩) ?_ ?_
  rotate_left
  · intro w'
    go_simp
    with_reducible rfl
  rotate_left
  · simp only [Act.put, List.setIfInBounds_toArray, List.set_cons_zero, List.set_cons_succ, i64_w, i32_w]
    rfl
  refine done_ (by kernel_rfl) ?_
  go_wp2_with (fail)
  refine start_ (n := 10) (S := fun w' => Bk w' g3 #[.int .i64 who, .int .i64 ep, .int .i64 num, .int .i64 obj, .int .i64 at_, .string data] 63 ∧ Bk w' g2 #[.slice (some ⟨g30, 0, none⟩) s0.now.length ds18_0, .slice as18_1 s0.sure.length ds18_1, .slice (some ⟨g26, 0, none⟩) s0.last.length ds18_2, .slice as18_3 s0.slast.length ds18_3, .slice (some ⟨g22, 0, none⟩) s0.floors.length ds18_4] 25 ∧ w'.cell? ⟨g26, who.toNat, none⟩ = some (.int .i64 (rd s0.last who))) (ds := []) #[false, false, false, false, false, false, false, false, false, false] (by kernel_rfl) rfl rfl ⟨(show Bk W48 g3 #[.int .i64 who, .int .i64 ep, .int .i64 num, .int .i64 obj, .int .i64 at_, .string data] 63 from (Bk.below F42.out (below_step HB47.out HB49.out))), (show Bk W48 g2 #[.slice (some ⟨g30, 0, none⟩) s0.now.length ds18_0, .slice as18_1 s0.sure.length ds18_1, .slice (some ⟨g26, 0, none⟩) s0.last.length ds18_2, .slice as18_3 s0.slast.length ds18_3, .slice (some ⟨g22, 0, none⟩) s0.floors.length ds18_4] 25 from (Bk.below F41.out (below_step HB47.out HB49.out))), (StR.last_cell (StR.below F44.out (below_step HB47.out HB49.out)) HN0.out HN2.out).2.2.1⟩ (fun hHeld => ?_)
  clear hHeld
  refine world_at (w := W48) (below_drew0 _) (fun W50 HB51 => ?_)
  refine pure_ (i := 0) (N := some 29) (v := ?_) (a' := ?_) #[true, false, false, false, false, false, false, false, false, false] rfl rfl (by kernel_rfl) (fun _ _ _ h => h) (Or.inl ⟨by rfl, ?_⟩) ?_ ?_
  rotate_left
  · intro w'
    go_simp
    with_reducible rfl
  rotate_left
  · simp only [Act.put, List.setIfInBounds_toArray, List.set_cons_zero, List.set_cons_succ, i64_w, i32_w]
    rfl
  refine take_ (i := 1) (N := some 30) (v := .int .i64 num) (a' := ?_) #[true, true, false, false, false, false, false, false, false, false] rfl rfl (by kernel_rfl) (fun _ _ _ h => h) (Or.inl ⟨by rfl, ?_⟩) ⟨(Bk.below F42.out (below_step (below_step HB47.out HB49.out) HB51.out)), (Bk.below F41.out (below_step (below_step HB47.out HB49.out) HB51.out)), (StR.last_cell (StR.below F44.out (below_step (below_step HB47.out HB49.out) HB51.out)) HN0.out HN2.out).2.2.1⟩ ?_ ?_
  · rintro w' ⟨s0_, s1_, s2_⟩
    have hc_ : w'.cell? ⟨g3, 2, none⟩ = some (.int .i64 num) := (Bk.cell s0_ 2).trans rfl
    first | (go_simp; done) | (go_simp; with_reducible rfl) | (go_simp; rfl)
  rotate_left
  · simp only [Act.put, List.setIfInBounds_toArray, List.set_cons_zero, List.set_cons_succ, i64_w, i32_w]
    rfl
  refine pure_ (i := 2) (N := some 31) (v := ?_) (a' := ?_) #[true, true, true, false, false, false, false, false, false, false] rfl rfl (by kernel_rfl) (fun _ _ _ h => h) (Or.inl ⟨by rfl, ?_⟩) ?_ ?_
  rotate_left
  · intro w'
    go_simp
    with_reducible rfl
  rotate_left
  · simp only [Act.put, List.setIfInBounds_toArray, List.set_cons_zero, List.set_cons_succ, i64_w, i32_w]
    rfl
  refine take_ (i := 3) (N := some 32) (v := .slice (some ⟨g26, 0, none⟩) s0.last.length ds18_2) (a' := ?_) #[true, true, true, true, false, false, false, false, false, false] rfl rfl (by kernel_rfl) (fun _ _ _ h => h) (Or.inl ⟨by rfl, ?_⟩) ⟨(Bk.below F42.out (below_step (below_step HB47.out HB49.out) HB51.out)), (Bk.below F41.out (below_step (below_step HB47.out HB49.out) HB51.out)), (StR.last_cell (StR.below F44.out (below_step (below_step HB47.out HB49.out) HB51.out)) HN0.out HN2.out).2.2.1⟩ ?_ ?_
  · rintro w' ⟨s0_, s1_, s2_⟩
    have hc_ : w'.cell? ⟨g2, 2, none⟩ = some (.slice (some ⟨g26, 0, none⟩) s0.last.length ds18_2) := (Bk.cell s1_ 2).trans rfl
    first | (go_simp; done) | (go_simp; with_reducible rfl) | (go_simp; rfl)
  rotate_left
  · simp only [Act.put, List.setIfInBounds_toArray, List.set_cons_zero, List.set_cons_succ, i64_w, i32_w]
    rfl
  refine pure_ (i := 4) (N := some 33) (v := ?_) (a' := ?_) #[true, true, true, true, true, false, false, false, false, false] rfl rfl (by kernel_rfl) (fun _ _ _ h => h) (Or.inl ⟨by rfl, ?_⟩) ?_ ?_
  rotate_left
  · intro w'
    go_simp
    with_reducible rfl
  rotate_left
  · simp only [Act.put, List.setIfInBounds_toArray, List.set_cons_zero, List.set_cons_succ, i64_w, i32_w]
    rfl
  refine take_ (i := 5) (N := some 34) (v := .int .i64 who) (a' := ?_) #[true, true, true, true, true, true, false, false, false, false] rfl rfl (by kernel_rfl) (fun _ _ _ h => h) (Or.inl ⟨by rfl, ?_⟩) ⟨(Bk.below F42.out (below_step (below_step HB47.out HB49.out) HB51.out)), (Bk.below F41.out (below_step (below_step HB47.out HB49.out) HB51.out)), (StR.last_cell (StR.below F44.out (below_step (below_step HB47.out HB49.out) HB51.out)) HN0.out HN2.out).2.2.1⟩ ?_ ?_
  · rintro w' ⟨s0_, s1_, s2_⟩
    have hc_ : w'.cell? ⟨g3, 0, none⟩ = some (.int .i64 who) := (Bk.cell s0_ 0).trans rfl
    first | (go_simp; done) | (go_simp; with_reducible rfl) | (go_simp; rfl)
  rotate_left
  · simp only [Act.put, List.setIfInBounds_toArray, List.set_cons_zero, List.set_cons_succ, i64_w, i32_w]
    rfl
  refine pure_ (i := 6) (N := some 35) (v := ?_) (a' := ?_) #[true, true, true, true, true, true, true, false, false, false] rfl rfl (by kernel_rfl) (fun _ _ _ h => h) (Or.inl ⟨by rfl, ?_⟩) ?_ ?_
  rotate_left
  · intro w'
    go_simp
    with_reducible rfl
  rotate_left
  · simp only [Act.put, List.setIfInBounds_toArray, List.set_cons_zero, List.set_cons_succ, i64_w, i32_w]
    rfl
  refine take_ (i := 7) (N := some 36) (v := .int .i64 (rd s0.last who)) (a' := ?_) #[true, true, true, true, true, true, true, true, false, false] rfl rfl (by kernel_rfl) (fun _ _ _ h => h) (Or.inl ⟨by rfl, ?_⟩) ⟨(Bk.below F42.out (below_step (below_step HB47.out HB49.out) HB51.out)), (Bk.below F41.out (below_step (below_step HB47.out HB49.out) HB51.out)), (StR.last_cell (StR.below F44.out (below_step (below_step HB47.out HB49.out) HB51.out)) HN0.out HN2.out).2.2.1⟩ ?_ ?_
  · rintro w' ⟨s0_, s1_, s2_⟩
    first | (go_simp; done) | (go_simp; with_reducible rfl) | (go_simp; rfl)
  rotate_left
  · simp only [Act.put, List.setIfInBounds_toArray, List.set_cons_zero, List.set_cons_succ, i64_w, i32_w]
    rfl
  refine pure_ (i := 8) (N := some 37) (v := ?_) (a' := ?_) #[true, true, true, true, true, true, true, true, true, false] rfl rfl (by kernel_rfl) (fun _ _ _ h => h) (Or.inl ⟨by rfl, ?_⟩) ?_ ?_
  rotate_left
  · intro w'
    go_simp
    with_reducible rfl
  rotate_left
  · simp only [Act.put, List.setIfInBounds_toArray, List.set_cons_zero, List.set_cons_succ, i64_w, i32_w]
    rfl
  refine pure_ (i := 9) (N := some 28) (v := ?_) (a' := ?_) #[true, true, true, true, true, true, true, true, true, true] rfl rfl (by kernel_rfl) (fun _ _ _ h => h) (Or.inl ⟨by rfl, ?_⟩) ?_ ?_
  rotate_left
  · intro w'
    go_simp
    with_reducible rfl
  rotate_left
  · simp only [Act.put, List.setIfInBounds_toArray, List.set_cons_zero, List.set_cons_succ, i64_w, i32_w]
    rfl
  refine done_ (by kernel_rfl) ?_
  go_wp2_with (first | ((with_reducible refine gate_dst (N := 38) rfl ?_); refine ev_load rfl (N := 38) rfl rfl (g := g2) rfl (cs := #[.slice (some ⟨g30, 0, none⟩) s0.now.length ds18_0, .slice as18_1 s0.sure.length ds18_1, .slice (some ⟨g26, 0, none⟩) s0.last.length ds18_2, .slice as18_3 s0.slast.length ds18_3, .slice (some ⟨g22, 0, none⟩) s0.floors.length ds18_4]) (Bk.below F41.out (below_step (below_step HB47.out HB49.out) HB51.out)) hu25 rfl (by kernel_rfl) ?_) | ((with_reducible refine gate_store (t := 25) (p := 4) rfl ?_); refine ev_put (by rfl) rfl rfl (g := g4) rfl (cs := #[.slice (some ⟨g30, 0, none⟩) s0.now.length ds18_0, .slice as18_1 s0.sure.length ds18_1, .slice (some ⟨g26, 0, none⟩) s0.last.length ds18_2, .slice as18_3 s0.slast.length ds18_3, .slice (some ⟨g22, 0, none⟩) s0.floors.length ds18_4]) rfl (Bk.below F43.out (below_step (below_step HB47.out HB49.out) HB51.out)) (by kernel_rfl) rfl rfl ?_; intro W52 BK53 HB54 HK55; have z0_ := HB3.out.size; have z1_ := HG4.out; have z2_ := BK2.out.lt; have z3_ := HB7.out.size; have z4_ := HG8.out; have z5_ := BK6.out.lt; have z6_ := HB11.out.size; have z7_ := HG12.out; have z8_ := BK10.out.lt; have z9_ := HB15.out.size; have z10_ := HB21.out.size; have z11_ := GT23.out; have z12_ := GL24.out; have z13_ := GH25.out; have z14_ := GT27.out; have z15_ := GL28.out; have z16_ := GH29.out; have z17_ := GT31.out; have z18_ := GL32.out; have z19_ := GH33.out; have z20_ := HB38.out.size; have z21_ := HK39.out.1; have z22_ := HB47.out.size; have z23_ := HB49.out.size; have z24_ := HB51.out.size; have HB56 := Aside0.mk (below_at (below_step HB38.out (below_step (below_step HB47.out HB49.out) HB51.out)) HB54.out (by show w.heap.size ≤ g4; omega)); have HK57 := Aside0.mk (HK55.out); have F58 := Aside0.mk (StC.below HV0.out HB56.out); have F59 := Aside0.mk (Bk.kept (Bk.below F41.out (below_step (below_step HB47.out HB49.out) HB51.out)) HK57.out (fun h_ => (by obtain ⟨h1_, h2_⟩ := h_; omega))); have F60 := Aside0.mk (StR.kept (StR.below F44.out (below_step (below_step HB47.out HB49.out) HB51.out)) HK57.out (fun k_ h_ => (by obtain ⟨h1_, h2_⟩ := h_; omega))); have F61 := Aside0.mk (Bk.kept (Bk.below F42.out (below_step (below_step HB47.out HB49.out) HB51.out)) HK57.out (fun h_ => (by obtain ⟨h1_, h2_⟩ := h_; omega))); have F62 := Aside0.mk (BK53.out); clear z0_ z1_ z2_ z3_ z4_ z5_ z6_ z7_ z8_ z9_ z10_ z11_ z12_ z13_ z14_ z15_ z16_ z17_ z18_ z19_ z20_ z21_ z22_ z23_ z24_))
  try go_wp2
  refine bodyPost_ret (results_ct rfl _ _ g4 25 #[.slice (some ⟨g30, 0, none⟩) s0.now.length ds18_0, .slice as18_1 s0.sure.length ds18_1, .slice (some ⟨g26, 0, none⟩) s0.last.length ds18_2, .slice as18_3 s0.slast.length ds18_3, .slice (some ⟨g22, 0, none⟩) s0.floors.length ds18_4] (0, 0) _ rfl F62.out hu25 rfl (by kernel_rfl)) rfl ?_
  exact ⟨_, rfl, StR.widen F60.out (by have z0_ := HB3.out.size; have z1_ := HG4.out; have z2_ := BK2.out.lt; have z3_ := HB7.out.size; have z4_ := HG8.out; have z5_ := BK6.out.lt; have z6_ := HB11.out.size; have z7_ := HG12.out; have z8_ := BK10.out.lt; have z9_ := HB15.out.size; have z10_ := HB21.out.size; have z11_ := GT23.out; have z12_ := GL24.out; have z13_ := GH25.out; have z14_ := GT27.out; have z15_ := GL28.out; have z16_ := GH29.out; have z17_ := GT31.out; have z18_ := GL32.out; have z19_ := GH33.out; have z20_ := HB38.out.size; have z21_ := HK39.out.1; have z22_ := HB47.out.size; have z23_ := HB49.out.size; have z24_ := HB51.out.size; have z25_ := HB56.out.size; have z26_ := HK57.out.1; omega) (by have z0_ := HB3.out.size; have z1_ := HG4.out; have z2_ := BK2.out.lt; have z3_ := HB7.out.size; have z4_ := HG8.out; have z5_ := BK6.out.lt; have z6_ := HB11.out.size; have z7_ := HG12.out; have z8_ := BK10.out.lt; have z9_ := HB15.out.size; have z10_ := HB21.out.size; have z11_ := GT23.out; have z12_ := GL24.out; have z13_ := GH25.out; have z14_ := GT27.out; have z15_ := GL28.out; have z16_ := GH29.out; have z17_ := GT31.out; have z18_ := GL32.out; have z19_ := GH33.out; have z20_ := HB38.out.size; have z21_ := HK39.out.1; have z22_ := HB47.out.size; have z23_ := HB49.out.size; have z24_ := HB51.out.size; have z25_ := HB56.out.size; have z26_ := HK57.out.1; omega), HB56.out⟩
set_option maxHeartbeats 8000000 in
set_option maxRecDepth 100000 in
theorem impl_StoreDo_p4 {w : World} {v0 : Value} {s0 : St} (hv0 : StC w v0 s0) (hz0 : Sized s0) (hs0 : Small s0) (who ep num obj at_ : Int) (data : ByteArray) (hd : data.size ≤ 9223372036854775807) (b0 : 0 ≤ who) (b1 : who < s0.floors.length) (b2 : who < s0.last.length) (b3 : 0 ≤ obj) (b4 : obj < s0.now.length) (b5 : textOk (rdOf ByteArray.empty s0.now obj) = true) (hk : stOk s0 = true) (hq : reqOk ⟨who, ep, num, obj, at_, data⟩ = true) (h1 : ¬ ep < rd s0.floors who) (h2 : ¬ num ≤ rd s0.last who) {nx : Int} (hnx : wrap64 (rd s0.last who + 1) = nx) (h3 : nx < num) :
    Calls Try.prog 44 #[v0, .agg #[.int .i64 who, .int .i64 ep, .int .i64 num, .int .i64 obj, .int .i64 at_, .string data]] w fun e w' => ∃ u, e = .returned (.tuple #[u, .int .i64 4]) ∧ StR w' w.heap.size w'.heap.size u s0 ∧ Below w.heap.size w w' := by
  have HV0 := Aside0.mk hv0
  have HZ0 := Aside0.mk hz0
  obtain ⟨A0_0, c0_0, A0_1, c0_1, A0_2, c0_2, A0_3, c0_3, A0_4, c0_4, rfl, _⟩ := hv0
  have HS0 := Aside0.mk hs0
  clear hz0 hs0
  have HK := Aside0.mk hk
  clear hk
  have hd1 : decide (ep < rd s0.floors who) = false := decide_eq_false h1
  have hd2 : decide (num ≤ rd s0.last who) = false := decide_eq_false h2
  have hd3 : decide (nx < num) = true := decide_eq_true h3
  clear h1 h2 h3
  have hb0 := eq_true b0
  have HN0 := Aside0.mk b0
  have hb1 := eq_true b1
  have HN1 := Aside0.mk b1
  have hb2 := eq_true b2
  have HN2 := Aside0.mk b2
  have hb3 := eq_true b3
  have HN3 := Aside0.mk b3
  have hb4 := eq_true b4
  have HN4 := Aside0.mk b4
  have HN5 := Aside0.mk b5
  clear b0 b1 b2 b3 b4 b5
  have HD := Aside0.mk hd
  have HQ := Aside0.mk hq
  clear hd hq
  have hu25 := Try.underlying25
  have hu63 := Try.underlying63
  go_enter Try.func44, Try.ntmps44
  go_wp2_with (first | ((with_reducible refine gate_dst (N := 2) rfl ?_); refine ev_box ?hg (N := 2) ?hd (cs := #[.slice A0_0 s0.now.length c0_0, .slice A0_1 s0.sure.length c0_1, .slice A0_2 s0.last.length c0_2, .slice A0_3 s0.slast.length c0_3, .slice A0_4 s0.floors.length c0_4]) (t := 25) ?hr ?_; (case hd => rfl); (case hg => rfl); (case hr => first | (go_simp; done) | (go_simp; rfl)); intro g2 W1 HG4 BK2 HB3) | ((with_reducible refine gate_dst (N := 3) rfl ?_); refine ev_box ?hg (N := 3) ?hd (cs := #[.int .i64 who, .int .i64 ep, .int .i64 num, .int .i64 obj, .int .i64 at_, .string data]) (t := 63) ?hr ?_; (case hd => rfl); (case hg => rfl); (case hr => first | (go_simp; done) | (go_simp; rfl)); intro g3 W5 HG8 BK6 HB7) | ((with_reducible refine gate_dst (N := 4) rfl ?_); refine ev_box ?hg (N := 4) ?hd (cs := #[.slice none 0 0, .slice none 0 0, .slice none 0 0, .slice none 0 0, .slice none 0 0]) (t := 25) ?hr ?_; (case hd => rfl); (case hg => rfl); (case hr => first | (go_simp; done) | (go_simp; rfl)); intro g4 W9 HG12 BK10 HB11) | ((with_reducible refine gate_dst (N := 6) rfl ?_); refine ev_load rfl (N := 6) rfl rfl (g := g2) rfl (cs := #[.slice A0_0 s0.now.length c0_0, .slice A0_1 s0.sure.length c0_1, .slice A0_2 s0.last.length c0_2, .slice A0_3 s0.slast.length c0_3, .slice A0_4 s0.floors.length c0_4]) (Bk.below BK2.out (below_step HB7.out HB11.out)) hu25 rfl (by kernel_rfl) ?_))
  refine (impl_StoreOk_q (StC.below HV0.out (below_step (below_step HB3.out HB7.out) HB11.out)) HZ0.out HK.out).mono ?_
  rintro e W13 ⟨rfl, hb14⟩
  have HB15 := Aside0.mk hb14
  clear hb14
  go_wp2_with (first | ((with_reducible refine gate_dst (N := 10) rfl ?_); refine ev_load rfl (N := 10) rfl rfl (g := g2) rfl (cs := #[.slice A0_0 s0.now.length c0_0, .slice A0_1 s0.sure.length c0_1, .slice A0_2 s0.last.length c0_2, .slice A0_3 s0.slast.length c0_3, .slice A0_4 s0.floors.length c0_4]) (Bk.below BK2.out (below_step (below_step HB7.out HB11.out) HB15.out)) hu25 rfl (by kernel_rfl) ?_))
  refine (impl_again_c (StC.below HV0.out (below_step (below_step (below_step HB3.out HB7.out) HB11.out) HB15.out)) HS0.out).mono ?_
  rintro e W19 ⟨u16, rfl, hr17, hb20⟩
  have HB21 := Aside0.mk hb20
  clear hb20
  have HRs18 := Aside0.mk hr17
  obtain ⟨as18_0, ds18_0, as18_1, ds18_1, as18_2, ds18_2, as18_3, ds18_3, as18_4, ds18_4, rfl, _⟩ := hr17.toC
  clear hr17
  obtain ⟨g22, rfl⟩ := StR.floors_form HRs18.out HN0.out HN1.out
  have GT23 := Aside0.mk (StR.floors_lt HRs18.out)
  have GL24 := Aside0.mk (StR.floors_cell HRs18.out HN0.out HN1.out).1
  have GH25 := Aside0.mk (StR.floors_cell HRs18.out HN0.out HN1.out).2.1
  obtain ⟨g26, rfl⟩ := StR.last_form HRs18.out HN0.out HN2.out
  have GT27 := Aside0.mk (StR.last_lt HRs18.out)
  have GL28 := Aside0.mk (StR.last_cell HRs18.out HN0.out HN2.out).1
  have GH29 := Aside0.mk (StR.last_cell HRs18.out HN0.out HN2.out).2.1
  obtain ⟨g30, rfl⟩ := StR.now_form HRs18.out HN3.out HN4.out
  have GT31 := Aside0.mk (StR.now_lt HRs18.out)
  have GL32 := Aside0.mk (StR.now_cell HRs18.out HN3.out HN4.out).1
  have GH33 := Aside0.mk (StR.now_cell HRs18.out HN3.out HN4.out).2.1
  go_wp2_with (first | ((with_reducible refine gate_store (t := 25) (p := 2) rfl ?_); refine ev_put (by rfl) rfl rfl (g := g2) rfl (cs := #[.slice (some ⟨g30, 0, none⟩) s0.now.length ds18_0, .slice as18_1 s0.sure.length ds18_1, .slice (some ⟨g26, 0, none⟩) s0.last.length ds18_2, .slice as18_3 s0.slast.length ds18_3, .slice (some ⟨g22, 0, none⟩) s0.floors.length ds18_4]) rfl (Bk.below BK2.out (below_step (below_step (below_step HB7.out HB11.out) HB15.out) HB21.out)) (by kernel_rfl) rfl rfl ?_; intro W34 BK35 HB36 HK37; have z0_ := HB3.out.size; have z1_ := HG4.out; have z2_ := BK2.out.lt; have z3_ := HB7.out.size; have z4_ := HG8.out; have z5_ := BK6.out.lt; have z6_ := HB11.out.size; have z7_ := HG12.out; have z8_ := BK10.out.lt; have z9_ := HB15.out.size; have z10_ := HB21.out.size; have z11_ := GT23.out; have z12_ := GL24.out; have z13_ := GH25.out; have z14_ := GT27.out; have z15_ := GL28.out; have z16_ := GH29.out; have z17_ := GT31.out; have z18_ := GL32.out; have z19_ := GH33.out; have HB38 := Aside0.mk (below_at (below_step (below_step (below_step (below_step HB3.out HB7.out) HB11.out) HB15.out) HB21.out) HB36.out (by show w.heap.size ≤ g2; omega)); have HK39 := Aside0.mk (HK37.out); have F40 := Aside0.mk (StC.below HV0.out HB38.out); have F41 := Aside0.mk (BK35.out); have F42 := Aside0.mk (Bk.kept (Bk.below BK6.out (below_step (below_step HB11.out HB15.out) HB21.out)) HK39.out (fun h_ => (by obtain ⟨h1_, h2_⟩ := h_; omega))); have F43 := Aside0.mk (Bk.kept (Bk.below BK10.out (below_step HB15.out HB21.out)) HK39.out (fun h_ => (by obtain ⟨h1_, h2_⟩ := h_; omega))); have F44 := Aside0.mk (StR.kept HRs18.out HK39.out (fun k_ h_ => (by obtain ⟨h1_, h2_⟩ := h_; omega))); clear z0_ z1_ z2_ z3_ z4_ z5_ z6_ z7_ z8_ z9_ z10_ z11_ z12_ z13_ z14_ z15_ z16_ z17_ z18_ z19_) | ((with_reducible refine gate_dst (N := 13) rfl ?_); refine ev_load rfl (N := 13) rfl rfl (g := g3) rfl (cs := #[.int .i64 who, .int .i64 ep, .int .i64 num, .int .i64 obj, .int .i64 at_, .string data]) F42.out hu63 rfl (by kernel_rfl) ?_))
  refine (impl_formed_c HD.out HQ.out).mono ?_
  rintro e W45 ⟨rfl, hb46⟩
  have HB47 := Aside0.mk hb46
  clear hb46
  go_wp2_with (fail)
  refine start_ (n := 10) (S := fun w' => Bk w' g3 #[.int .i64 who, .int .i64 ep, .int .i64 num, .int .i64 obj, .int .i64 at_, .string data] 63 ∧ Bk w' g2 #[.slice (some ⟨g30, 0, none⟩) s0.now.length ds18_0, .slice as18_1 s0.sure.length ds18_1, .slice (some ⟨g26, 0, none⟩) s0.last.length ds18_2, .slice as18_3 s0.slast.length ds18_3, .slice (some ⟨g22, 0, none⟩) s0.floors.length ds18_4] 25 ∧ w'.cell? ⟨g22, who.toNat, none⟩ = some (.int .i64 (rd s0.floors who))) (ds := []) #[false, false, false, false, false, false, false, false, false, false] (by kernel_rfl) rfl rfl ⟨(show Bk W45 g3 #[.int .i64 who, .int .i64 ep, .int .i64 num, .int .i64 obj, .int .i64 at_, .string data] 63 from (Bk.below F42.out HB47.out)), (show Bk W45 g2 #[.slice (some ⟨g30, 0, none⟩) s0.now.length ds18_0, .slice as18_1 s0.sure.length ds18_1, .slice (some ⟨g26, 0, none⟩) s0.last.length ds18_2, .slice as18_3 s0.slast.length ds18_3, .slice (some ⟨g22, 0, none⟩) s0.floors.length ds18_4] 25 from (Bk.below F41.out HB47.out)), (StR.floors_cell (StR.below F44.out HB47.out) HN0.out HN1.out).2.2.1⟩ (fun hHeld => ?_)
  clear hHeld
  refine world_at (w := W45) (below_drew0 _) (fun W48 HB49 => ?_)
  refine pure_ (i := 0) (N := some 18) (v := ?_) (a' := ?_) #[true, false, false, false, false, false, false, false, false, false] rfl rfl (by kernel_rfl) (fun _ _ _ h => h) (Or.inl ⟨by rfl, ?_⟩) ?_ ?_
  rotate_left
  · intro w'
    go_simp
    with_reducible rfl
  rotate_left
  · simp only [Act.put, List.setIfInBounds_toArray, List.set_cons_zero, List.set_cons_succ, i64_w, i32_w]
    rfl
  refine take_ (i := 1) (N := some 19) (v := .int .i64 ep) (a' := ?_) #[true, true, false, false, false, false, false, false, false, false] rfl rfl (by kernel_rfl) (fun _ _ _ h => h) (Or.inl ⟨by rfl, ?_⟩) ⟨(Bk.below F42.out (below_step HB47.out HB49.out)), (Bk.below F41.out (below_step HB47.out HB49.out)), (StR.floors_cell (StR.below F44.out (below_step HB47.out HB49.out)) HN0.out HN1.out).2.2.1⟩ ?_ ?_
  · rintro w' ⟨s0_, s1_, s2_⟩
    have hc_ : w'.cell? ⟨g3, 1, none⟩ = some (.int .i64 ep) := (Bk.cell s0_ 1).trans rfl
    first | (go_simp; done) | (go_simp; with_reducible rfl) | (go_simp; rfl)
  rotate_left
  · simp only [Act.put, List.setIfInBounds_toArray, List.set_cons_zero, List.set_cons_succ, i64_w, i32_w]
    rfl
  refine pure_ (i := 2) (N := some 20) (v := ?_) (a' := ?_) #[true, true, true, false, false, false, false, false, false, false] rfl rfl (by kernel_rfl) (fun _ _ _ h => h) (Or.inl ⟨by rfl, ?_⟩) ?_ ?_
  rotate_left
  · intro w'
    go_simp
    with_reducible rfl
  rotate_left
  · simp only [Act.put, List.setIfInBounds_toArray, List.set_cons_zero, List.set_cons_succ, i64_w, i32_w]
    rfl
  refine take_ (i := 3) (N := some 21) (v := .slice (some ⟨g22, 0, none⟩) s0.floors.length ds18_4) (a' := ?_) #[true, true, true, true, false, false, false, false, false, false] rfl rfl (by kernel_rfl) (fun _ _ _ h => h) (Or.inl ⟨by rfl, ?_⟩) ⟨(Bk.below F42.out (below_step HB47.out HB49.out)), (Bk.below F41.out (below_step HB47.out HB49.out)), (StR.floors_cell (StR.below F44.out (below_step HB47.out HB49.out)) HN0.out HN1.out).2.2.1⟩ ?_ ?_
  · rintro w' ⟨s0_, s1_, s2_⟩
    have hc_ : w'.cell? ⟨g2, 4, none⟩ = some (.slice (some ⟨g22, 0, none⟩) s0.floors.length ds18_4) := (Bk.cell s1_ 4).trans rfl
    first | (go_simp; done) | (go_simp; with_reducible rfl) | (go_simp; rfl)
  rotate_left
  · simp only [Act.put, List.setIfInBounds_toArray, List.set_cons_zero, List.set_cons_succ, i64_w, i32_w]
    rfl
  refine pure_ (i := 4) (N := some 22) (v := ?_) (a' := ?_) #[true, true, true, true, true, false, false, false, false, false] rfl rfl (by kernel_rfl) (fun _ _ _ h => h) (Or.inl ⟨by rfl, ?_⟩) ?_ ?_
  rotate_left
  · intro w'
    go_simp
    with_reducible rfl
  rotate_left
  · simp only [Act.put, List.setIfInBounds_toArray, List.set_cons_zero, List.set_cons_succ, i64_w, i32_w]
    rfl
  refine take_ (i := 5) (N := some 23) (v := .int .i64 who) (a' := ?_) #[true, true, true, true, true, true, false, false, false, false] rfl rfl (by kernel_rfl) (fun _ _ _ h => h) (Or.inl ⟨by rfl, ?_⟩) ⟨(Bk.below F42.out (below_step HB47.out HB49.out)), (Bk.below F41.out (below_step HB47.out HB49.out)), (StR.floors_cell (StR.below F44.out (below_step HB47.out HB49.out)) HN0.out HN1.out).2.2.1⟩ ?_ ?_
  · rintro w' ⟨s0_, s1_, s2_⟩
    have hc_ : w'.cell? ⟨g3, 0, none⟩ = some (.int .i64 who) := (Bk.cell s0_ 0).trans rfl
    first | (go_simp; done) | (go_simp; with_reducible rfl) | (go_simp; rfl)
  rotate_left
  · simp only [Act.put, List.setIfInBounds_toArray, List.set_cons_zero, List.set_cons_succ, i64_w, i32_w]
    rfl
  refine pure_ (i := 6) (N := some 24) (v := ?_) (a' := ?_) #[true, true, true, true, true, true, true, false, false, false] rfl rfl (by kernel_rfl) (fun _ _ _ h => h) (Or.inl ⟨by rfl, ?_⟩) ?_ ?_
  rotate_left
  · intro w'
    go_simp
    with_reducible rfl
  rotate_left
  · simp only [Act.put, List.setIfInBounds_toArray, List.set_cons_zero, List.set_cons_succ, i64_w, i32_w]
    rfl
  refine take_ (i := 7) (N := some 25) (v := .int .i64 (rd s0.floors who)) (a' := ?_) #[true, true, true, true, true, true, true, true, false, false] rfl rfl (by kernel_rfl) (fun _ _ _ h => h) (Or.inl ⟨by rfl, ?_⟩) ⟨(Bk.below F42.out (below_step HB47.out HB49.out)), (Bk.below F41.out (below_step HB47.out HB49.out)), (StR.floors_cell (StR.below F44.out (below_step HB47.out HB49.out)) HN0.out HN1.out).2.2.1⟩ ?_ ?_
  · rintro w' ⟨s0_, s1_, s2_⟩
    first | (go_simp; done) | (go_simp; with_reducible rfl) | (go_simp; rfl)
  rotate_left
  · simp only [Act.put, List.setIfInBounds_toArray, List.set_cons_zero, List.set_cons_succ, i64_w, i32_w]
    rfl
  refine pure_ (i := 8) (N := some 26) (v := ?_) (a' := ?_) #[true, true, true, true, true, true, true, true, true, false] rfl rfl (by kernel_rfl) (fun _ _ _ h => h) (Or.inl ⟨by rfl, ?_⟩) ?_ ?_
  rotate_left
  · intro w'
    go_simp
    with_reducible rfl
  rotate_left
  · simp only [Act.put, List.setIfInBounds_toArray, List.set_cons_zero, List.set_cons_succ, i64_w, i32_w]
    rfl
  refine pure_ (i := 9) (N := some 17) (v := ?_) (a' := ?_) #[true, true, true, true, true, true, true, true, true, true] rfl rfl (by kernel_rfl) (fun _ _ _ h => h) (Or.inl ⟨by rfl, ?_⟩) ?_ ?_
  rotate_left
  · intro w'
    go_simp
    with_reducible rfl
  rotate_left
  · simp only [Act.put, List.setIfInBounds_toArray, List.set_cons_zero, List.set_cons_succ, i64_w, i32_w]
    rfl
  refine done_ (by kernel_rfl) ?_
  go_wp2_with (fail)
  refine start_ (n := 10) (S := fun w' => Bk w' g3 #[.int .i64 who, .int .i64 ep, .int .i64 num, .int .i64 obj, .int .i64 at_, .string data] 63 ∧ Bk w' g2 #[.slice (some ⟨g30, 0, none⟩) s0.now.length ds18_0, .slice as18_1 s0.sure.length ds18_1, .slice (some ⟨g26, 0, none⟩) s0.last.length ds18_2, .slice as18_3 s0.slast.length ds18_3, .slice (some ⟨g22, 0, none⟩) s0.floors.length ds18_4] 25 ∧ w'.cell? ⟨g26, who.toNat, none⟩ = some (.int .i64 (rd s0.last who))) (ds := []) #[false, false, false, false, false, false, false, false, false, false] (by kernel_rfl) rfl rfl ⟨(show Bk W48 g3 #[.int .i64 who, .int .i64 ep, .int .i64 num, .int .i64 obj, .int .i64 at_, .string data] 63 from (Bk.below F42.out (below_step HB47.out HB49.out))), (show Bk W48 g2 #[.slice (some ⟨g30, 0, none⟩) s0.now.length ds18_0, .slice as18_1 s0.sure.length ds18_1, .slice (some ⟨g26, 0, none⟩) s0.last.length ds18_2, .slice as18_3 s0.slast.length ds18_3, .slice (some ⟨g22, 0, none⟩) s0.floors.length ds18_4] 25 from (Bk.below F41.out (below_step HB47.out HB49.out))), (StR.last_cell (StR.below F44.out (below_step HB47.out HB49.out)) HN0.out HN2.out).2.2.1⟩ (fun hHeld => ?_)
  clear hHeld
  refine world_at (w := W48) (below_drew0 _) (fun W50 HB51 => ?_)
  refine pure_ (i := 0) (N := some 29) (v := ?_) (a' := ?_) #[true, false, false, false, false, false, false, false, false, false] rfl rfl (by kernel_rfl) (fun _ _ _ h => h) (Or.inl ⟨by rfl, ?_⟩) ?_ ?_
  rotate_left
  · intro w'
    go_simp
    with_reducible rfl
  rotate_left
  · simp only [Act.put, List.setIfInBounds_toArray, List.set_cons_zero, List.set_cons_succ, i64_w, i32_w]
    rfl
  refine take_ (i := 1) (N := some 30) (v := .int .i64 num) (a' := ?_) #[true, true, false, false, false, false, false, false, false, false] rfl rfl (by kernel_rfl) (fun _ _ _ h => h) (Or.inl ⟨by rfl, ?_⟩) ⟨(Bk.below F42.out (below_step (below_step HB47.out HB49.out) HB51.out)), (Bk.below F41.out (below_step (below_step HB47.out HB49.out) HB51.out)), (StR.last_cell (StR.below F44.out (below_step (below_step HB47.out HB49.out) HB51.out)) HN0.out HN2.out).2.2.1⟩ ?_ ?_
  · rintro w' ⟨s0_, s1_, s2_⟩
    have hc_ : w'.cell? ⟨g3, 2, none⟩ = some (.int .i64 num) := (Bk.cell s0_ 2).trans rfl
    first | (go_simp; done) | (go_simp; with_reducible rfl) | (go_simp; rfl)
  rotate_left
  · simp only [Act.put, List.setIfInBounds_toArray, List.set_cons_zero, List.set_cons_succ, i64_w, i32_w]
    rfl
  refine pure_ (i := 2) (N := some 31) (v := ?_) (a' := ?_) #[true, true, true, false, false, false, false, false, false, false] rfl rfl (by kernel_rfl) (fun _ _ _ h => h) (Or.inl ⟨by rfl, ?_⟩) ?_ ?_
  rotate_left
  · intro w'
    go_simp
    with_reducible rfl
  rotate_left
  · simp only [Act.put, List.setIfInBounds_toArray, List.set_cons_zero, List.set_cons_succ, i64_w, i32_w]
    rfl
  refine take_ (i := 3) (N := some 32) (v := .slice (some ⟨g26, 0, none⟩) s0.last.length ds18_2) (a' := ?_) #[true, true, true, true, false, false, false, false, false, false] rfl rfl (by kernel_rfl) (fun _ _ _ h => h) (Or.inl ⟨by rfl, ?_⟩) ⟨(Bk.below F42.out (below_step (below_step HB47.out HB49.out) HB51.out)), (Bk.below F41.out (below_step (below_step HB47.out HB49.out) HB51.out)), (StR.last_cell (StR.below F44.out (below_step (below_step HB47.out HB49.out) HB51.out)) HN0.out HN2.out).2.2.1⟩ ?_ ?_
  · rintro w' ⟨s0_, s1_, s2_⟩
    have hc_ : w'.cell? ⟨g2, 2, none⟩ = some (.slice (some ⟨g26, 0, none⟩) s0.last.length ds18_2) := (Bk.cell s1_ 2).trans rfl
    first | (go_simp; done) | (go_simp; with_reducible rfl) | (go_simp; rfl)
  rotate_left
  · simp only [Act.put, List.setIfInBounds_toArray, List.set_cons_zero, List.set_cons_succ, i64_w, i32_w]
    rfl
  refine pure_ (i := 4) (N := some 33) (v := ?_) (a' := ?_) #[true, true, true, true, true, false, false, false, false, false] rfl rfl (by kernel_rfl) (fun _ _ _ h => h) (Or.inl ⟨by rfl, ?_⟩) ?_ ?_
  rotate_left
  · intro w'
    go_simp
    with_reducible rfl
  rotate_left
  · simp only [Act.put, List.setIfInBounds_toArray, List.set_cons_zero, List.set_cons_succ, i64_w, i32_w]
    rfl
  refine take_ (i := 5) (N := some 34) (v := .int .i64 who) (a' := ?_) #[true, true, true, true, true, true, false, false, false, false] rfl rfl (by kernel_rfl) (fun _ _ _ h => h) (Or.inl ⟨by rfl, ?_⟩) ⟨(Bk.below F42.out (below_step (below_step HB47.out HB49.out) HB51.out)), (Bk.below F41.out (below_step (below_step HB47.out HB49.out) HB51.out)), (StR.last_cell (StR.below F44.out (below_step (below_step HB47.out HB49.out) HB51.out)) HN0.out HN2.out).2.2.1⟩ ?_ ?_
  · rintro w' ⟨s0_, s1_, s2_⟩
    have hc_ : w'.cell? ⟨g3, 0, none⟩ = some (.int .i64 who) := (Bk.cell s0_ 0).trans rfl
    first | (go_simp; done) | (go_simp; with_reducible rfl) | (go_simp; rfl)
  rotate_left
  · simp only [Act.put, List.setIfInBounds_toArray, List.set_cons_zero, List.set_cons_succ, i64_w, i32_w]
    rfl
  refine pure_ (i := 6) (N := some 35) (v := ?_) (a' := ?_) #[true, true, true, true, true, true, true, false, false, false] rfl rfl (by kernel_rfl) (fun _ _ _ h => h) (Or.inl ⟨by rfl, ?_⟩) ?_ ?_
  rotate_left
  · intro w'
    go_simp
    with_reducible rfl
  rotate_left
  · simp only [Act.put, List.setIfInBounds_toArray, List.set_cons_zero, List.set_cons_succ, i64_w, i32_w]
    rfl
  refine take_ (i := 7) (N := some 36) (v := .int .i64 (rd s0.last who)) (a' := ?_) #[true, true, true, true, true, true, true, true, false, false] rfl rfl (by kernel_rfl) (fun _ _ _ h => h) (Or.inl ⟨by rfl, ?_⟩) ⟨(Bk.below F42.out (below_step (below_step HB47.out HB49.out) HB51.out)), (Bk.below F41.out (below_step (below_step HB47.out HB49.out) HB51.out)), (StR.last_cell (StR.below F44.out (below_step (below_step HB47.out HB49.out) HB51.out)) HN0.out HN2.out).2.2.1⟩ ?_ ?_
  · rintro w' ⟨s0_, s1_, s2_⟩
    first | (go_simp; done) | (go_simp; with_reducible rfl) | (go_simp; rfl)
  rotate_left
  · simp only [Act.put, List.setIfInBounds_toArray, List.set_cons_zero, List.set_cons_succ, i64_w, i32_w]
    rfl
  refine pure_ (i := 8) (N := some 37) (v := ?_) (a' := ?_) #[true, true, true, true, true, true, true, true, true, false] rfl rfl (by kernel_rfl) (fun _ _ _ h => h) (Or.inl ⟨by rfl, ?_⟩) ?_ ?_
  rotate_left
  · intro w'
    go_simp
    with_reducible rfl
  rotate_left
  · simp only [Act.put, List.setIfInBounds_toArray, List.set_cons_zero, List.set_cons_succ, i64_w, i32_w]
    rfl
  refine pure_ (i := 9) (N := some 28) (v := ?_) (a' := ?_) #[true, true, true, true, true, true, true, true, true, true] rfl rfl (by kernel_rfl) (fun _ _ _ h => h) (Or.inl ⟨by rfl, ?_⟩) ?_ ?_
  rotate_left
  · intro w'
    go_simp
    with_reducible rfl
  rotate_left
  · simp only [Act.put, List.setIfInBounds_toArray, List.set_cons_zero, List.set_cons_succ, i64_w, i32_w]
    rfl
  refine done_ (by kernel_rfl) ?_
  go_wp2_with (fail)
  refine start_ (n := 11) (S := fun w' => Bk w' g3 #[.int .i64 who, .int .i64 ep, .int .i64 num, .int .i64 obj, .int .i64 at_, .string data] 63 ∧ Bk w' g2 #[.slice (some ⟨g30, 0, none⟩) s0.now.length ds18_0, .slice as18_1 s0.sure.length ds18_1, .slice (some ⟨g26, 0, none⟩) s0.last.length ds18_2, .slice as18_3 s0.slast.length ds18_3, .slice (some ⟨g22, 0, none⟩) s0.floors.length ds18_4] 25 ∧ w'.cell? ⟨g26, who.toNat, none⟩ = some (.int .i64 (rd s0.last who))) (ds := []) #[false, false, false, false, false, false, false, false, false, false, false] (by kernel_rfl) rfl rfl ⟨(show Bk W50 g3 #[.int .i64 who, .int .i64 ep, .int .i64 num, .int .i64 obj, .int .i64 at_, .string data] 63 from (Bk.below F42.out (below_step (below_step HB47.out HB49.out) HB51.out))), (show Bk W50 g2 #[.slice (some ⟨g30, 0, none⟩) s0.now.length ds18_0, .slice as18_1 s0.sure.length ds18_1, .slice (some ⟨g26, 0, none⟩) s0.last.length ds18_2, .slice as18_3 s0.slast.length ds18_3, .slice (some ⟨g22, 0, none⟩) s0.floors.length ds18_4] 25 from (Bk.below F41.out (below_step (below_step HB47.out HB49.out) HB51.out))), (StR.last_cell (StR.below F44.out (below_step (below_step HB47.out HB49.out) HB51.out)) HN0.out HN2.out).2.2.1⟩ (fun hHeld => ?_)
  clear hHeld
  refine world_at (w := W50) (below_drew0 _) (fun W52 HB53 => ?_)
  refine pure_ (i := 0) (N := some 40) (v := ?_) (a' := ?_) #[true, false, false, false, false, false, false, false, false, false, false] rfl rfl (by kernel_rfl) (fun _ _ _ h => h) (Or.inl ⟨by rfl, ?_⟩) ?_ ?_
  rotate_left
  · intro w'
    go_simp
    with_reducible rfl
  rotate_left
  · simp only [Act.put, List.setIfInBounds_toArray, List.set_cons_zero, List.set_cons_succ, i64_w, i32_w]
    rfl
  refine take_ (i := 1) (N := some 41) (v := .int .i64 num) (a' := ?_) #[true, true, false, false, false, false, false, false, false, false, false] rfl rfl (by kernel_rfl) (fun _ _ _ h => h) (Or.inl ⟨by rfl, ?_⟩) ⟨(Bk.below F42.out (below_step (below_step (below_step HB47.out HB49.out) HB51.out) HB53.out)), (Bk.below F41.out (below_step (below_step (below_step HB47.out HB49.out) HB51.out) HB53.out)), (StR.last_cell (StR.below F44.out (below_step (below_step (below_step HB47.out HB49.out) HB51.out) HB53.out)) HN0.out HN2.out).2.2.1⟩ ?_ ?_
  · rintro w' ⟨s0_, s1_, s2_⟩
    have hc_ : w'.cell? ⟨g3, 2, none⟩ = some (.int .i64 num) := (Bk.cell s0_ 2).trans rfl
    first | (go_simp; done) | (go_simp; with_reducible rfl) | (go_simp; rfl)
  rotate_left
  · simp only [Act.put, List.setIfInBounds_toArray, List.set_cons_zero, List.set_cons_succ, i64_w, i32_w]
    rfl
  refine pure_ (i := 2) (N := some 42) (v := ?_) (a' := ?_) #[true, true, true, false, false, false, false, false, false, false, false] rfl rfl (by kernel_rfl) (fun _ _ _ h => h) (Or.inl ⟨by rfl, ?_⟩) ?_ ?_
  rotate_left
  · intro w'
    go_simp
    with_reducible rfl
  rotate_left
  · simp only [Act.put, List.setIfInBounds_toArray, List.set_cons_zero, List.set_cons_succ, i64_w, i32_w]
    rfl
  refine take_ (i := 3) (N := some 43) (v := .slice (some ⟨g26, 0, none⟩) s0.last.length ds18_2) (a' := ?_) #[true, true, true, true, false, false, false, false, false, false, false] rfl rfl (by kernel_rfl) (fun _ _ _ h => h) (Or.inl ⟨by rfl, ?_⟩) ⟨(Bk.below F42.out (below_step (below_step (below_step HB47.out HB49.out) HB51.out) HB53.out)), (Bk.below F41.out (below_step (below_step (below_step HB47.out HB49.out) HB51.out) HB53.out)), (StR.last_cell (StR.below F44.out (below_step (below_step (below_step HB47.out HB49.out) HB51.out) HB53.out)) HN0.out HN2.out).2.2.1⟩ ?_ ?_
  · rintro w' ⟨s0_, s1_, s2_⟩
    have hc_ : w'.cell? ⟨g2, 2, none⟩ = some (.slice (some ⟨g26, 0, none⟩) s0.last.length ds18_2) := (Bk.cell s1_ 2).trans rfl
    first | (go_simp; done) | (go_simp; with_reducible rfl) | (go_simp; rfl)
  rotate_left
  · simp only [Act.put, List.setIfInBounds_toArray, List.set_cons_zero, List.set_cons_succ, i64_w, i32_w]
    rfl
  refine pure_ (i := 4) (N := some 44) (v := ?_) (a' := ?_) #[true, true, true, true, true, false, false, false, false, false, false] rfl rfl (by kernel_rfl) (fun _ _ _ h => h) (Or.inl ⟨by rfl, ?_⟩) ?_ ?_
  rotate_left
  · intro w'
    go_simp
    with_reducible rfl
  rotate_left
  · simp only [Act.put, List.setIfInBounds_toArray, List.set_cons_zero, List.set_cons_succ, i64_w, i32_w]
    rfl
  refine take_ (i := 5) (N := some 45) (v := .int .i64 who) (a' := ?_) #[true, true, true, true, true, true, false, false, false, false, false] rfl rfl (by kernel_rfl) (fun _ _ _ h => h) (Or.inl ⟨by rfl, ?_⟩) ⟨(Bk.below F42.out (below_step (below_step (below_step HB47.out HB49.out) HB51.out) HB53.out)), (Bk.below F41.out (below_step (below_step (below_step HB47.out HB49.out) HB51.out) HB53.out)), (StR.last_cell (StR.below F44.out (below_step (below_step (below_step HB47.out HB49.out) HB51.out) HB53.out)) HN0.out HN2.out).2.2.1⟩ ?_ ?_
  · rintro w' ⟨s0_, s1_, s2_⟩
    have hc_ : w'.cell? ⟨g3, 0, none⟩ = some (.int .i64 who) := (Bk.cell s0_ 0).trans rfl
    first | (go_simp; done) | (go_simp; with_reducible rfl) | (go_simp; rfl)
  rotate_left
  · simp only [Act.put, List.setIfInBounds_toArray, List.set_cons_zero, List.set_cons_succ, i64_w, i32_w]
    rfl
  refine pure_ (i := 6) (N := some 46) (v := ?_) (a' := ?_) #[true, true, true, true, true, true, true, false, false, false, false] rfl rfl (by kernel_rfl) (fun _ _ _ h => h) (Or.inl ⟨by rfl, ?_⟩) ?_ ?_
  rotate_left
  · intro w'
    go_simp
    with_reducible rfl
  rotate_left
  · simp only [Act.put, List.setIfInBounds_toArray, List.set_cons_zero, List.set_cons_succ, i64_w, i32_w]
    rfl
  refine take_ (i := 7) (N := some 47) (v := .int .i64 (rd s0.last who)) (a' := ?_) #[true, true, true, true, true, true, true, true, false, false, false] rfl rfl (by kernel_rfl) (fun _ _ _ h => h) (Or.inl ⟨by rfl, ?_⟩) ⟨(Bk.below F42.out (below_step (below_step (below_step HB47.out HB49.out) HB51.out) HB53.out)), (Bk.below F41.out (below_step (below_step (below_step HB47.out HB49.out) HB51.out) HB53.out)), (StR.last_cell (StR.below F44.out (below_step (below_step (below_step HB47.out HB49.out) HB51.out) HB53.out)) HN0.out HN2.out).2.2.1⟩ ?_ ?_
  · rintro w' ⟨s0_, s1_, s2_⟩
    first | (go_simp; done) | (go_simp; with_reducible rfl) | (go_simp; rfl)
  rotate_left
  · simp only [Act.put, List.setIfInBounds_toArray, List.set_cons_zero, List.set_cons_succ, i64_w, i32_w]
    rfl
  refine pure_ (i := 8) (N := some 48) (v := ?_) (a' := ?_) #[true, true, true, true, true, true, true, true, true, false, false] rfl rfl (by kernel_rfl) (fun _ _ _ h => h) (Or.inl ⟨by rfl, ?_⟩) ?_ ?_
  rotate_left
  · intro w'
    go_simp
    with_reducible rfl
  rotate_left
  · simp only [Act.put, List.setIfInBounds_toArray, List.set_cons_zero, List.set_cons_succ, i64_w, i32_w]
    rfl
  refine pure_ (i := 9) (N := some 49) (v := ?_) (a' := ?_) #[true, true, true, true, true, true, true, true, true, true, false] rfl rfl (by kernel_rfl) (fun _ _ _ h => h) (Or.inl ⟨by rfl, ?_⟩) ?_ ?_
  rotate_left
  · intro w'
    go_simp
    with_reducible rfl
  rotate_left
  · simp only [Act.put, List.setIfInBounds_toArray, List.set_cons_zero, List.set_cons_succ, i64_w, i32_w]
    rfl
  refine pure_ (i := 10) (N := some 39) (v := ?_) (a' := ?_) #[true, true, true, true, true, true, true, true, true, true, true] rfl rfl (by kernel_rfl) (fun _ _ _ h => h) (Or.inl ⟨by rfl, ?_⟩) ?_ ?_
  rotate_left
  · intro w'
    go_simp
    with_reducible rfl
  rotate_left
  · simp only [Act.put, List.setIfInBounds_toArray, List.set_cons_zero, List.set_cons_succ, i64_w, i32_w]
    rfl
  refine done_ (by kernel_rfl) ?_
  go_wp2_with (first | ((with_reducible refine gate_dst (N := 50) rfl ?_); refine ev_load rfl (N := 50) rfl rfl (g := g2) rfl (cs := #[.slice (some ⟨g30, 0, none⟩) s0.now.length ds18_0, .slice as18_1 s0.sure.length ds18_1, .slice (some ⟨g26, 0, none⟩) s0.last.length ds18_2, .slice as18_3 s0.slast.length ds18_3, .slice (some ⟨g22, 0, none⟩) s0.floors.length ds18_4]) (Bk.below F41.out (below_step (below_step (below_step HB47.out HB49.out) HB51.out) HB53.out)) hu25 rfl (by kernel_rfl) ?_) | ((with_reducible refine gate_store (t := 25) (p := 4) rfl ?_); refine ev_put (by rfl) rfl rfl (g := g4) rfl (cs := #[.slice (some ⟨g30, 0, none⟩) s0.now.length ds18_0, .slice as18_1 s0.sure.length ds18_1, .slice (some ⟨g26, 0, none⟩) s0.last.length ds18_2, .slice as18_3 s0.slast.length ds18_3, .slice (some ⟨g22, 0, none⟩) s0.floors.length ds18_4]) rfl (Bk.below F43.out (below_step (below_step (below_step HB47.out HB49.out) HB51.out) HB53.out)) (by kernel_rfl) rfl rfl ?_; intro W54 BK55 HB56 HK57; have z0_ := HB3.out.size; have z1_ := HG4.out; have z2_ := BK2.out.lt; have z3_ := HB7.out.size; have z4_ := HG8.out; have z5_ := BK6.out.lt; have z6_ := HB11.out.size; have z7_ := HG12.out; have z8_ := BK10.out.lt; have z9_ := HB15.out.size; have z10_ := HB21.out.size; have z11_ := GT23.out; have z12_ := GL24.out; have z13_ := GH25.out; have z14_ := GT27.out; have z15_ := GL28.out; have z16_ := GH29.out; have z17_ := GT31.out; have z18_ := GL32.out; have z19_ := GH33.out; have z20_ := HB38.out.size; have z21_ := HK39.out.1; have z22_ := HB47.out.size; have z23_ := HB49.out.size; have z24_ := HB51.out.size; have z25_ := HB53.out.size; have HB58 := Aside0.mk (below_at (below_step HB38.out (below_step (below_step (below_step HB47.out HB49.out) HB51.out) HB53.out)) HB56.out (by show w.heap.size ≤ g4; omega)); have HK59 := Aside0.mk (HK57.out); have F60 := Aside0.mk (StC.below HV0.out HB58.out); have F61 := Aside0.mk (Bk.kept (Bk.below F41.out (below_step (below_step (below_step HB47.out HB49.out) HB51.out) HB53.out)) HK59.out (fun h_ => (by obtain ⟨h1_, h2_⟩ := h_; omega))); have F62 := Aside0.mk (StR.kept (StR.below F44.out (below_step (below_step (below_step HB47.out HB49.out) HB51.out) HB53.out)) HK59.out (fun k_ h_ => (by obtain ⟨h1_, h2_⟩ := h_; omega))); have F63 := Aside0.mk (Bk.kept (Bk.below F42.out (below_step (below_step (below_step HB47.out HB49.out) HB51.out) HB53.out)) HK59.out (fun h_ => (by obtain ⟨h1_, h2_⟩ := h_; omega))); have F64 := Aside0.mk (BK55.out); clear z0_ z1_ z2_ z3_ z4_ z5_ z6_ z7_ z8_ z9_ z10_ z11_ z12_ z13_ z14_ z15_ z16_ z17_ z18_ z19_ z20_ z21_ z22_ z23_ z24_ z25_))
  try go_wp2
  refine bodyPost_ret (results_ct rfl _ _ g4 25 #[.slice (some ⟨g30, 0, none⟩) s0.now.length ds18_0, .slice as18_1 s0.sure.length ds18_1, .slice (some ⟨g26, 0, none⟩) s0.last.length ds18_2, .slice as18_3 s0.slast.length ds18_3, .slice (some ⟨g22, 0, none⟩) s0.floors.length ds18_4] (0, 0) _ rfl F64.out hu25 rfl (by kernel_rfl)) rfl ?_
  exact ⟨_, rfl, StR.widen F62.out (by have z0_ := HB3.out.size; have z1_ := HG4.out; have z2_ := BK2.out.lt; have z3_ := HB7.out.size; have z4_ := HG8.out; have z5_ := BK6.out.lt; have z6_ := HB11.out.size; have z7_ := HG12.out; have z8_ := BK10.out.lt; have z9_ := HB15.out.size; have z10_ := HB21.out.size; have z11_ := GT23.out; have z12_ := GL24.out; have z13_ := GH25.out; have z14_ := GT27.out; have z15_ := GL28.out; have z16_ := GH29.out; have z17_ := GT31.out; have z18_ := GL32.out; have z19_ := GH33.out; have z20_ := HB38.out.size; have z21_ := HK39.out.1; have z22_ := HB47.out.size; have z23_ := HB49.out.size; have z24_ := HB51.out.size; have z25_ := HB53.out.size; have z26_ := HB58.out.size; have z27_ := HK59.out.1; omega) (by have z0_ := HB3.out.size; have z1_ := HG4.out; have z2_ := BK2.out.lt; have z3_ := HB7.out.size; have z4_ := HG8.out; have z5_ := BK6.out.lt; have z6_ := HB11.out.size; have z7_ := HG12.out; have z8_ := BK10.out.lt; have z9_ := HB15.out.size; have z10_ := HB21.out.size; have z11_ := GT23.out; have z12_ := GL24.out; have z13_ := GH25.out; have z14_ := GT27.out; have z15_ := GL28.out; have z16_ := GH29.out; have z17_ := GT31.out; have z18_ := GL32.out; have z19_ := GH33.out; have z20_ := HB38.out.size; have z21_ := HK39.out.1; have z22_ := HB47.out.size; have z23_ := HB49.out.size; have z24_ := HB51.out.size; have z25_ := HB53.out.size; have z26_ := HB58.out.size; have z27_ := HK59.out.1; omega), HB58.out⟩
set_option maxHeartbeats 8000000 in
set_option maxRecDepth 100000 in
theorem impl_StoreDo_p5 {w : World} {v0 : Value} {s0 : St} (hv0 : StC w v0 s0) (hz0 : Sized s0) (hs0 : Small s0) (who ep num obj at_ : Int) (data : ByteArray) (hd : data.size ≤ 9223372036854775807) (b0 : 0 ≤ who) (b1 : who < s0.floors.length) (b2 : who < s0.last.length) (b3 : 0 ≤ obj) (b4 : obj < s0.now.length) (b5 : textOk (rdOf ByteArray.empty s0.now obj) = true) (hk : stOk s0 = true) (hq : reqOk ⟨who, ep, num, obj, at_, data⟩ = true) (h1 : ¬ ep < rd s0.floors who) (h2 : ¬ num ≤ rd s0.last who) {nx : Int} (hnx : wrap64 (rd s0.last who + 1) = nx) (h3 : ¬ nx < num) {r : ByteArray} (hr : writeText (rdOf ByteArray.empty s0.now obj) at_.toNat data = r) :
    Calls Try.prog 44 #[v0, .agg #[.int .i64 who, .int .i64 ep, .int .i64 num, .int .i64 obj, .int .i64 at_, .string data]] w fun e w' => ∃ u, e = .returned (.tuple #[u, .int .i64 0]) ∧ StR w' w.heap.size w'.heap.size u { s0 with now := s0.now.set obj.toNat r, last := s0.last.set who.toNat num } ∧ Below w.heap.size w w' := by
  have HV0 := Aside0.mk hv0
  have HZ0 := Aside0.mk hz0
  obtain ⟨A0_0, c0_0, A0_1, c0_1, A0_2, c0_2, A0_3, c0_3, A0_4, c0_4, rfl, _⟩ := hv0
  have HS0 := Aside0.mk hs0
  clear hz0 hs0
  have HK := Aside0.mk hk
  clear hk
  have hd1 : decide (ep < rd s0.floors who) = false := decide_eq_false h1
  have hd2 : decide (num ≤ rd s0.last who) = false := decide_eq_false h2
  have hd3 : decide (nx < num) = false := decide_eq_false h3
  have HWR := Aside0.mk hr
  clear h1 h2 h3 hr
  have hb0 := eq_true b0
  have HN0 := Aside0.mk b0
  have hb1 := eq_true b1
  have HN1 := Aside0.mk b1
  have hb2 := eq_true b2
  have HN2 := Aside0.mk b2
  have hb3 := eq_true b3
  have HN3 := Aside0.mk b3
  have hb4 := eq_true b4
  have HN4 := Aside0.mk b4
  have HN5 := Aside0.mk b5
  clear b0 b1 b2 b3 b4 b5
  have HD := Aside0.mk hd
  have HQ := Aside0.mk hq
  clear hd hq
  have hu25 := Try.underlying25
  have hu63 := Try.underlying63
  go_enter Try.func44, Try.ntmps44
  go_wp2_with (first | ((with_reducible refine gate_dst (N := 2) rfl ?_); refine ev_box ?hg (N := 2) ?hd (cs := #[.slice A0_0 s0.now.length c0_0, .slice A0_1 s0.sure.length c0_1, .slice A0_2 s0.last.length c0_2, .slice A0_3 s0.slast.length c0_3, .slice A0_4 s0.floors.length c0_4]) (t := 25) ?hr ?_; (case hd => rfl); (case hg => rfl); (case hr => first | (go_simp; done) | (go_simp; rfl)); intro g2 W1 HG4 BK2 HB3) | ((with_reducible refine gate_dst (N := 3) rfl ?_); refine ev_box ?hg (N := 3) ?hd (cs := #[.int .i64 who, .int .i64 ep, .int .i64 num, .int .i64 obj, .int .i64 at_, .string data]) (t := 63) ?hr ?_; (case hd => rfl); (case hg => rfl); (case hr => first | (go_simp; done) | (go_simp; rfl)); intro g3 W5 HG8 BK6 HB7) | ((with_reducible refine gate_dst (N := 4) rfl ?_); refine ev_box ?hg (N := 4) ?hd (cs := #[.slice none 0 0, .slice none 0 0, .slice none 0 0, .slice none 0 0, .slice none 0 0]) (t := 25) ?hr ?_; (case hd => rfl); (case hg => rfl); (case hr => first | (go_simp; done) | (go_simp; rfl)); intro g4 W9 HG12 BK10 HB11) | ((with_reducible refine gate_dst (N := 6) rfl ?_); refine ev_load rfl (N := 6) rfl rfl (g := g2) rfl (cs := #[.slice A0_0 s0.now.length c0_0, .slice A0_1 s0.sure.length c0_1, .slice A0_2 s0.last.length c0_2, .slice A0_3 s0.slast.length c0_3, .slice A0_4 s0.floors.length c0_4]) (Bk.below BK2.out (below_step HB7.out HB11.out)) hu25 rfl (by kernel_rfl) ?_))
  refine (impl_StoreOk_q (StC.below HV0.out (below_step (below_step HB3.out HB7.out) HB11.out)) HZ0.out HK.out).mono ?_
  rintro e W13 ⟨rfl, hb14⟩
  have HB15 := Aside0.mk hb14
  clear hb14
  go_wp2_with (first | ((with_reducible refine gate_dst (N := 10) rfl ?_); refine ev_load rfl (N := 10) rfl rfl (g := g2) rfl (cs := #[.slice A0_0 s0.now.length c0_0, .slice A0_1 s0.sure.length c0_1, .slice A0_2 s0.last.length c0_2, .slice A0_3 s0.slast.length c0_3, .slice A0_4 s0.floors.length c0_4]) (Bk.below BK2.out (below_step (below_step HB7.out HB11.out) HB15.out)) hu25 rfl (by kernel_rfl) ?_))
  refine (impl_again_c (StC.below HV0.out (below_step (below_step (below_step HB3.out HB7.out) HB11.out) HB15.out)) HS0.out).mono ?_
  rintro e W19 ⟨u16, rfl, hr17, hb20⟩
  have HB21 := Aside0.mk hb20
  clear hb20
  have HRs18 := Aside0.mk hr17
  obtain ⟨as18_0, ds18_0, as18_1, ds18_1, as18_2, ds18_2, as18_3, ds18_3, as18_4, ds18_4, rfl, _⟩ := hr17.toC
  clear hr17
  obtain ⟨g22, rfl⟩ := StR.floors_form HRs18.out HN0.out HN1.out
  have GT23 := Aside0.mk (StR.floors_lt HRs18.out)
  have GL24 := Aside0.mk (StR.floors_cell HRs18.out HN0.out HN1.out).1
  have GH25 := Aside0.mk (StR.floors_cell HRs18.out HN0.out HN1.out).2.1
  obtain ⟨g26, rfl⟩ := StR.last_form HRs18.out HN0.out HN2.out
  have GT27 := Aside0.mk (StR.last_lt HRs18.out)
  have GL28 := Aside0.mk (StR.last_cell HRs18.out HN0.out HN2.out).1
  have GH29 := Aside0.mk (StR.last_cell HRs18.out HN0.out HN2.out).2.1
  obtain ⟨g30, rfl⟩ := StR.now_form HRs18.out HN3.out HN4.out
  have GT31 := Aside0.mk (StR.now_lt HRs18.out)
  have GL32 := Aside0.mk (StR.now_cell HRs18.out HN3.out HN4.out).1
  have GH33 := Aside0.mk (StR.now_cell HRs18.out HN3.out HN4.out).2.1
  go_wp2_with (first | ((with_reducible refine gate_store (t := 25) (p := 2) rfl ?_); refine ev_put (by rfl) rfl rfl (g := g2) rfl (cs := #[.slice (some ⟨g30, 0, none⟩) s0.now.length ds18_0, .slice as18_1 s0.sure.length ds18_1, .slice (some ⟨g26, 0, none⟩) s0.last.length ds18_2, .slice as18_3 s0.slast.length ds18_3, .slice (some ⟨g22, 0, none⟩) s0.floors.length ds18_4]) rfl (Bk.below BK2.out (below_step (below_step (below_step HB7.out HB11.out) HB15.out) HB21.out)) (by kernel_rfl) rfl rfl ?_; intro W34 BK35 HB36 HK37; have z0_ := HB3.out.size; have z1_ := HG4.out; have z2_ := BK2.out.lt; have z3_ := HB7.out.size; have z4_ := HG8.out; have z5_ := BK6.out.lt; have z6_ := HB11.out.size; have z7_ := HG12.out; have z8_ := BK10.out.lt; have z9_ := HB15.out.size; have z10_ := HB21.out.size; have z11_ := GT23.out; have z12_ := GL24.out; have z13_ := GH25.out; have z14_ := GT27.out; have z15_ := GL28.out; have z16_ := GH29.out; have z17_ := GT31.out; have z18_ := GL32.out; have z19_ := GH33.out; have HB38 := Aside0.mk (below_at (below_step (below_step (below_step (below_step HB3.out HB7.out) HB11.out) HB15.out) HB21.out) HB36.out (by show w.heap.size ≤ g2; omega)); have HK39 := Aside0.mk (HK37.out); have F40 := Aside0.mk (StC.below HV0.out HB38.out); have F41 := Aside0.mk (BK35.out); have F42 := Aside0.mk (Bk.kept (Bk.below BK6.out (below_step (below_step HB11.out HB15.out) HB21.out)) HK39.out (fun h_ => (by obtain ⟨h1_, h2_⟩ := h_; omega))); have F43 := Aside0.mk (Bk.kept (Bk.below BK10.out (below_step HB15.out HB21.out)) HK39.out (fun h_ => (by obtain ⟨h1_, h2_⟩ := h_; omega))); have F44 := Aside0.mk (StR.kept HRs18.out HK39.out (fun k_ h_ => (by obtain ⟨h1_, h2_⟩ := h_; omega))); clear z0_ z1_ z2_ z3_ z4_ z5_ z6_ z7_ z8_ z9_ z10_ z11_ z12_ z13_ z14_ z15_ z16_ z17_ z18_ z19_) | ((with_reducible refine gate_dst (N := 13) rfl ?_); refine ev_load rfl (N := 13) rfl rfl (g := g3) rfl (cs := #[.int .i64 who, .int .i64 ep, .int .i64 num, .int .i64 obj, .int .i64 at_, .string data]) F42.out hu63 rfl (by kernel_rfl) ?_))
  refine (impl_formed_c HD.out HQ.out).mono ?_
  rintro e W45 ⟨rfl, hb46⟩
  have HB47 := Aside0.mk hb46
  clear hb46
  go_wp2_with (fail)
  refine start_ (n := 10) (S := fun w' => Bk w' g3 #[.int .i64 who, .int .i64 ep, .int .i64 num, .int .i64 obj, .int .i64 at_, .string data] 63 ∧ Bk w' g2 #[.slice (some ⟨g30, 0, none⟩) s0.now.length ds18_0, .slice as18_1 s0.sure.length ds18_1, .slice (some ⟨g26, 0, none⟩) s0.last.length ds18_2, .slice as18_3 s0.slast.length ds18_3, .slice (some ⟨g22, 0, none⟩) s0.floors.length ds18_4] 25 ∧ w'.cell? ⟨g22, who.toNat, none⟩ = some (.int .i64 (rd s0.floors who))) (ds := []) #[false, false, false, false, false, false, false, false, false, false] (by kernel_rfl) rfl rfl ⟨(show Bk W45 g3 #[.int .i64 who, .int .i64 ep, .int .i64 num, .int .i64 obj, .int .i64 at_, .string data] 63 from (Bk.below F42.out HB47.out)), (show Bk W45 g2 #[.slice (some ⟨g30, 0, none⟩) s0.now.length ds18_0, .slice as18_1 s0.sure.length ds18_1, .slice (some ⟨g26, 0, none⟩) s0.last.length ds18_2, .slice as18_3 s0.slast.length ds18_3, .slice (some ⟨g22, 0, none⟩) s0.floors.length ds18_4] 25 from (Bk.below F41.out HB47.out)), (StR.floors_cell (StR.below F44.out HB47.out) HN0.out HN1.out).2.2.1⟩ (fun hHeld => ?_)
  clear hHeld
  refine world_at (w := W45) (below_drew0 _) (fun W48 HB49 => ?_)
  refine pure_ (i := 0) (N := some 18) (v := ?_) (a' := ?_) #[true, false, false, false, false, false, false, false, false, false] rfl rfl (by kernel_rfl) (fun _ _ _ h => h) (Or.inl ⟨by rfl, ?_⟩) ?_ ?_
  rotate_left
  · intro w'
    go_simp
    with_reducible rfl
  rotate_left
  · simp only [Act.put, List.setIfInBounds_toArray, List.set_cons_zero, List.set_cons_succ, i64_w, i32_w]
    rfl
  refine take_ (i := 1) (N := some 19) (v := .int .i64 ep) (a' := ?_) #[true, true, false, false, false, false, false, false, false, false] rfl rfl (by kernel_rfl) (fun _ _ _ h => h) (Or.inl ⟨by rfl, ?_⟩) ⟨(Bk.below F42.out (below_step HB47.out HB49.out)), (Bk.below F41.out (below_step HB47.out HB49.out)), (StR.floors_cell (StR.below F44.out (below_step HB47.out HB49.out)) HN0.out HN1.out).2.2.1⟩ ?_ ?_
  · rintro w' ⟨s0_, s1_, s2_⟩
    have hc_ : w'.cell? ⟨g3, 1, none⟩ = some (.int .i64 ep) := (Bk.cell s0_ 1).trans rfl
    first | (go_simp; done) | (go_simp; with_reducible rfl) | (go_simp; rfl)
  rotate_left
  · simp only [Act.put, List.setIfInBounds_toArray, List.set_cons_zero, List.set_cons_succ, i64_w, i32_w]
    rfl
  refine pure_ (i := 2) (N := some 20) (v := ?_) (a' := ?_) #[true, true, true, false, false, false, false, false, false, false] rfl rfl (by kernel_rfl) (fun _ _ _ h => h) (Or.inl ⟨by rfl, ?_⟩) ?_ ?_
  rotate_left
  · intro w'
    go_simp
    with_reducible rfl
  rotate_left
  · simp only [Act.put, List.setIfInBounds_toArray, List.set_cons_zero, List.set_cons_succ, i64_w, i32_w]
    rfl
  refine take_ (i := 3) (N := some 21) (v := .slice (some ⟨g22, 0, none⟩) s0.floors.length ds18_4) (a' := ?_) #[true, true, true, true, false, false, false, false, false, false] rfl rfl (by kernel_rfl) (fun _ _ _ h => h) (Or.inl ⟨by rfl, ?_⟩) ⟨(Bk.below F42.out (below_step HB47.out HB49.out)), (Bk.below F41.out (below_step HB47.out HB49.out)), (StR.floors_cell (StR.below F44.out (below_step HB47.out HB49.out)) HN0.out HN1.out).2.2.1⟩ ?_ ?_
  · rintro w' ⟨s0_, s1_, s2_⟩
    have hc_ : w'.cell? ⟨g2, 4, none⟩ = some (.slice (some ⟨g22, 0, none⟩) s0.floors.length ds18_4) := (Bk.cell s1_ 4).trans rfl
    first | (go_simp; done) | (go_simp; with_reducible rfl) | (go_simp; rfl)
  rotate_left
  · simp only [Act.put, List.setIfInBounds_toArray, List.set_cons_zero, List.set_cons_succ, i64_w, i32_w]
    rfl
  refine pure_ (i := 4) (N := some 22) (v := ?_) (a' := ?_) #[true, true, true, true, true, false, false, false, false, false] rfl rfl (by kernel_rfl) (fun _ _ _ h => h) (Or.inl ⟨by rfl, ?_⟩) ?_ ?_
  rotate_left
  · intro w'
    go_simp
    with_reducible rfl
  rotate_left
  · simp only [Act.put, List.setIfInBounds_toArray, List.set_cons_zero, List.set_cons_succ, i64_w, i32_w]
    rfl
  refine take_ (i := 5) (N := some 23) (v := .int .i64 who) (a' := ?_) #[true, true, true, true, true, true, false, false, false, false] rfl rfl (by kernel_rfl) (fun _ _ _ h => h) (Or.inl ⟨by rfl, ?_⟩) ⟨(Bk.below F42.out (below_step HB47.out HB49.out)), (Bk.below F41.out (below_step HB47.out HB49.out)), (StR.floors_cell (StR.below F44.out (below_step HB47.out HB49.out)) HN0.out HN1.out).2.2.1⟩ ?_ ?_
  · rintro w' ⟨s0_, s1_, s2_⟩
    have hc_ : w'.cell? ⟨g3, 0, none⟩ = some (.int .i64 who) := (Bk.cell s0_ 0).trans rfl
    first | (go_simp; done) | (go_simp; with_reducible rfl) | (go_simp; rfl)
  rotate_left
  · simp only [Act.put, List.setIfInBounds_toArray, List.set_cons_zero, List.set_cons_succ, i64_w, i32_w]
    rfl
  refine pure_ (i := 6) (N := some 24) (v := ?_) (a' := ?_) #[true, true, true, true, true, true, true, false, false, false] rfl rfl (by kernel_rfl) (fun _ _ _ h => h) (Or.inl ⟨by rfl, ?_⟩) ?_ ?_
  rotate_left
  · intro w'
    go_simp
    with_reducible rfl
  rotate_left
  · simp only [Act.put, List.setIfInBounds_toArray, List.set_cons_zero, List.set_cons_succ, i64_w, i32_w]
    rfl
  refine take_ (i := 7) (N := some 25) (v := .int .i64 (rd s0.floors who)) (a' := ?_) #[true, true, true, true, true, true, true, true, false, false] rfl rfl (by kernel_rfl) (fun _ _ _ h => h) (Or.inl ⟨by rfl, ?_⟩) ⟨(Bk.below F42.out (below_step HB47.out HB49.out)), (Bk.below F41.out (below_step HB47.out HB49.out)), (StR.floors_cell (StR.below F44.out (below_step HB47.out HB49.out)) HN0.out HN1.out).2.2.1⟩ ?_ ?_
  · rintro w' ⟨s0_, s1_, s2_⟩
    first | (go_simp; done) | (go_simp; with_reducible rfl) | (go_simp; rfl)
  rotate_left
  · simp only [Act.put, List.setIfInBounds_toArray, List.set_cons_zero, List.set_cons_succ, i64_w, i32_w]
    rfl
  refine pure_ (i := 8) (N := some 26) (v := ?_) (a' := ?_) #[true, true, true, true, true, true, true, true, true, false] rfl rfl (by kernel_rfl) (fun _ _ _ h => h) (Or.inl ⟨by rfl, ?_⟩) ?_ ?_
  rotate_left
  · intro w'
    go_simp
    with_reducible rfl
  rotate_left
  · simp only [Act.put, List.setIfInBounds_toArray, List.set_cons_zero, List.set_cons_succ, i64_w, i32_w]
    rfl
  refine pure_ (i := 9) (N := some 17) (v := ?_) (a' := ?_) #[true, true, true, true, true, true, true, true, true, true] rfl rfl (by kernel_rfl) (fun _ _ _ h => h) (Or.inl ⟨by rfl, ?_⟩) ?_ ?_
  rotate_left
  · intro w'
    go_simp
    with_reducible rfl
  rotate_left
  · simp only [Act.put, List.setIfInBounds_toArray, List.set_cons_zero, List.set_cons_succ, i64_w, i32_w]
    rfl
  refine done_ (by kernel_rfl) ?_
  go_wp2_with (fail)
  refine start_ (n := 10) (S := fun w' => Bk w' g3 #[.int .i64 who, .int .i64 ep, .int .i64 num, .int .i64 obj, .int .i64 at_, .string data] 63 ∧ Bk w' g2 #[.slice (some ⟨g30, 0, none⟩) s0.now.length ds18_0, .slice as18_1 s0.sure.length ds18_1, .slice (some ⟨g26, 0, none⟩) s0.last.length ds18_2, .slice as18_3 s0.slast.length ds18_3, .slice (some ⟨g22, 0, none⟩) s0.floors.length ds18_4] 25 ∧ w'.cell? ⟨g26, who.toNat, none⟩ = some (.int .i64 (rd s0.last who))) (ds := []) #[false, false, false, false, false, false, false, false, false, false] (by kernel_rfl) rfl rfl ⟨(show Bk W48 g3 #[.int .i64 who, .int .i64 ep, .int .i64 num, .int .i64 obj, .int .i64 at_, .string data] 63 from (Bk.below F42.out (below_step HB47.out HB49.out))), (show Bk W48 g2 #[.slice (some ⟨g30, 0, none⟩) s0.now.length ds18_0, .slice as18_1 s0.sure.length ds18_1, .slice (some ⟨g26, 0, none⟩) s0.last.length ds18_2, .slice as18_3 s0.slast.length ds18_3, .slice (some ⟨g22, 0, none⟩) s0.floors.length ds18_4] 25 from (Bk.below F41.out (below_step HB47.out HB49.out))), (StR.last_cell (StR.below F44.out (below_step HB47.out HB49.out)) HN0.out HN2.out).2.2.1⟩ (fun hHeld => ?_)
  clear hHeld
  refine world_at (w := W48) (below_drew0 _) (fun W50 HB51 => ?_)
  refine pure_ (i := 0) (N := some 29) (v := ?_) (a' := ?_) #[true, false, false, false, false, false, false, false, false, false] rfl rfl (by kernel_rfl) (fun _ _ _ h => h) (Or.inl ⟨by rfl, ?_⟩) ?_ ?_
  rotate_left
  · intro w'
    go_simp
    with_reducible rfl
  rotate_left
  · simp only [Act.put, List.setIfInBounds_toArray, List.set_cons_zero, List.set_cons_succ, i64_w, i32_w]
    rfl
  refine take_ (i := 1) (N := some 30) (v := .int .i64 num) (a' := ?_) #[true, true, false, false, false, false, false, false, false, false] rfl rfl (by kernel_rfl) (fun _ _ _ h => h) (Or.inl ⟨by rfl, ?_⟩) ⟨(Bk.below F42.out (below_step (below_step HB47.out HB49.out) HB51.out)), (Bk.below F41.out (below_step (below_step HB47.out HB49.out) HB51.out)), (StR.last_cell (StR.below F44.out (below_step (below_step HB47.out HB49.out) HB51.out)) HN0.out HN2.out).2.2.1⟩ ?_ ?_
  · rintro w' ⟨s0_, s1_, s2_⟩
    have hc_ : w'.cell? ⟨g3, 2, none⟩ = some (.int .i64 num) := (Bk.cell s0_ 2).trans rfl
    first | (go_simp; done) | (go_simp; with_reducible rfl) | (go_simp; rfl)
  rotate_left
  · simp only [Act.put, List.setIfInBounds_toArray, List.set_cons_zero, List.set_cons_succ, i64_w, i32_w]
    rfl
  refine pure_ (i := 2) (N := some 31) (v := ?_) (a' := ?_) #[true, true, true, false, false, false, false, false, false, false] rfl rfl (by kernel_rfl) (fun _ _ _ h => h) (Or.inl ⟨by rfl, ?_⟩) ?_ ?_
  rotate_left
  · intro w'
    go_simp
    with_reducible rfl
  rotate_left
  · simp only [Act.put, List.setIfInBounds_toArray, List.set_cons_zero, List.set_cons_succ, i64_w, i32_w]
    rfl
  refine take_ (i := 3) (N := some 32) (v := .slice (some ⟨g26, 0, none⟩) s0.last.length ds18_2) (a' := ?_) #[true, true, true, true, false, false, false, false, false, false] rfl rfl (by kernel_rfl) (fun _ _ _ h => h) (Or.inl ⟨by rfl, ?_⟩) ⟨(Bk.below F42.out (below_step (below_step HB47.out HB49.out) HB51.out)), (Bk.below F41.out (below_step (below_step HB47.out HB49.out) HB51.out)), (StR.last_cell (StR.below F44.out (below_step (below_step HB47.out HB49.out) HB51.out)) HN0.out HN2.out).2.2.1⟩ ?_ ?_
  · rintro w' ⟨s0_, s1_, s2_⟩
    have hc_ : w'.cell? ⟨g2, 2, none⟩ = some (.slice (some ⟨g26, 0, none⟩) s0.last.length ds18_2) := (Bk.cell s1_ 2).trans rfl
    first | (go_simp; done) | (go_simp; with_reducible rfl) | (go_simp; rfl)
  rotate_left
  · simp only [Act.put, List.setIfInBounds_toArray, List.set_cons_zero, List.set_cons_succ, i64_w, i32_w]
    rfl
  refine pure_ (i := 4) (N := some 33) (v := ?_) (a' := ?_) #[true, true, true, true, true, false, false, false, false, false] rfl rfl (by kernel_rfl) (fun _ _ _ h => h) (Or.inl ⟨by rfl, ?_⟩) ?_ ?_
  rotate_left
  · intro w'
    go_simp
    with_reducible rfl
  rotate_left
  · simp only [Act.put, List.setIfInBounds_toArray, List.set_cons_zero, List.set_cons_succ, i64_w, i32_w]
    rfl
  refine take_ (i := 5) (N := some 34) (v := .int .i64 who) (a' := ?_) #[true, true, true, true, true, true, false, false, false, false] rfl rfl (by kernel_rfl) (fun _ _ _ h => h) (Or.inl ⟨by rfl, ?_⟩) ⟨(Bk.below F42.out (below_step (below_step HB47.out HB49.out) HB51.out)), (Bk.below F41.out (below_step (below_step HB47.out HB49.out) HB51.out)), (StR.last_cell (StR.below F44.out (below_step (below_step HB47.out HB49.out) HB51.out)) HN0.out HN2.out).2.2.1⟩ ?_ ?_
  · rintro w' ⟨s0_, s1_, s2_⟩
    have hc_ : w'.cell? ⟨g3, 0, none⟩ = some (.int .i64 who) := (Bk.cell s0_ 0).trans rfl
    first | (go_simp; done) | (go_simp; with_reducible rfl) | (go_simp; rfl)
  rotate_left
  · simp only [Act.put, List.setIfInBounds_toArray, List.set_cons_zero, List.set_cons_succ, i64_w, i32_w]
    rfl
  refine pure_ (i := 6) (N := some 35) (v := ?_) (a' := ?_) #[true, true, true, true, true, true, true, false, false, false] rfl rfl (by kernel_rfl) (fun _ _ _ h => h) (Or.inl ⟨by rfl, ?_⟩) ?_ ?_
  rotate_left
  · intro w'
    go_simp
    with_reducible rfl
  rotate_left
  · simp only [Act.put, List.setIfInBounds_toArray, List.set_cons_zero, List.set_cons_succ, i64_w, i32_w]
    rfl
  refine take_ (i := 7) (N := some 36) (v := .int .i64 (rd s0.last who)) (a' := ?_) #[true, true, true, true, true, true, true, true, false, false] rfl rfl (by kernel_rfl) (fun _ _ _ h => h) (Or.inl ⟨by rfl, ?_⟩) ⟨(Bk.below F42.out (below_step (below_step HB47.out HB49.out) HB51.out)), (Bk.below F41.out (below_step (below_step HB47.out HB49.out) HB51.out)), (StR.last_cell (StR.below F44.out (below_step (below_step HB47.out HB49.out) HB51.out)) HN0.out HN2.out).2.2.1⟩ ?_ ?_
  · rintro w' ⟨s0_, s1_, s2_⟩
    first | (go_simp; done) | (go_simp; with_reducible rfl) | (go_simp; rfl)
  rotate_left
  · simp only [Act.put, List.setIfInBounds_toArray, List.set_cons_zero, List.set_cons_succ, i64_w, i32_w]
    rfl
  refine pure_ (i := 8) (N := some 37) (v := ?_) (a' := ?_) #[true, true, true, true, true, true, true, true, true, false] rfl rfl (by kernel_rfl) (fun _ _ _ h => h) (Or.inl ⟨by rfl, ?_⟩) ?_ ?_
  rotate_left
  · intro w'
    go_simp
    with_reducible rfl
  rotate_left
  · simp only [Act.put, List.setIfInBounds_toArray, List.set_cons_zero, List.set_cons_succ, i64_w, i32_w]
    rfl
  refine pure_ (i := 9) (N := some 28) (v := ?_) (a' := ?_) #[true, true, true, true, true, true, true, true, true, true] rfl rfl (by kernel_rfl) (fun _ _ _ h => h) (Or.inl ⟨by rfl, ?_⟩) ?_ ?_
  rotate_left
  · intro w'
    go_simp
    with_reducible rfl
  rotate_left
  · simp only [Act.put, List.setIfInBounds_toArray, List.set_cons_zero, List.set_cons_succ, i64_w, i32_w]
    rfl
  refine done_ (by kernel_rfl) ?_
  go_wp2_with (fail)
  refine start_ (n := 11) (S := fun w' => Bk w' g3 #[.int .i64 who, .int .i64 ep, .int .i64 num, .int .i64 obj, .int .i64 at_, .string data] 63 ∧ Bk w' g2 #[.slice (some ⟨g30, 0, none⟩) s0.now.length ds18_0, .slice as18_1 s0.sure.length ds18_1, .slice (some ⟨g26, 0, none⟩) s0.last.length ds18_2, .slice as18_3 s0.slast.length ds18_3, .slice (some ⟨g22, 0, none⟩) s0.floors.length ds18_4] 25 ∧ w'.cell? ⟨g26, who.toNat, none⟩ = some (.int .i64 (rd s0.last who))) (ds := []) #[false, false, false, false, false, false, false, false, false, false, false] (by kernel_rfl) rfl rfl ⟨(show Bk W50 g3 #[.int .i64 who, .int .i64 ep, .int .i64 num, .int .i64 obj, .int .i64 at_, .string data] 63 from (Bk.below F42.out (below_step (below_step HB47.out HB49.out) HB51.out))), (show Bk W50 g2 #[.slice (some ⟨g30, 0, none⟩) s0.now.length ds18_0, .slice as18_1 s0.sure.length ds18_1, .slice (some ⟨g26, 0, none⟩) s0.last.length ds18_2, .slice as18_3 s0.slast.length ds18_3, .slice (some ⟨g22, 0, none⟩) s0.floors.length ds18_4] 25 from (Bk.below F41.out (below_step (below_step HB47.out HB49.out) HB51.out))), (StR.last_cell (StR.below F44.out (below_step (below_step HB47.out HB49.out) HB51.out)) HN0.out HN2.out).2.2.1⟩ (fun hHeld => ?_)
  clear hHeld
  refine world_at (w := W50) (below_drew0 _) (fun W52 HB53 => ?_)
  refine pure_ (i := 0) (N := some 40) (v := ?_) (a' := ?_) #[true, false, false, false, false, false, false, false, false, false, false] rfl rfl (by kernel_rfl) (fun _ _ _ h => h) (Or.inl ⟨by rfl, ?_⟩) ?_ ?_
  rotate_left
  · intro w'
    go_simp
    with_reducible rfl
  rotate_left
  · simp only [Act.put, List.setIfInBounds_toArray, List.set_cons_zero, List.set_cons_succ, i64_w, i32_w]
    rfl
  refine take_ (i := 1) (N := some 41) (v := .int .i64 num) (a' := ?_) #[true, true, false, false, false, false, false, false, false, false, false] rfl rfl (by kernel_rfl) (fun _ _ _ h => h) (Or.inl ⟨by rfl, ?_⟩) ⟨(Bk.below F42.out (below_step (below_step (below_step HB47.out HB49.out) HB51.out) HB53.out)), (Bk.below F41.out (below_step (below_step (below_step HB47.out HB49.out) HB51.out) HB53.out)), (StR.last_cell (StR.below F44.out (below_step (below_step (below_step HB47.out HB49.out) HB51.out) HB53.out)) HN0.out HN2.out).2.2.1⟩ ?_ ?_
  · rintro w' ⟨s0_, s1_, s2_⟩
    have hc_ : w'.cell? ⟨g3, 2, none⟩ = some (.int .i64 num) := (Bk.cell s0_ 2).trans rfl
    first | (go_simp; done) | (go_simp; with_reducible rfl) | (go_simp; rfl)
  rotate_left
  · simp only [Act.put, List.setIfInBounds_toArray, List.set_cons_zero, List.set_cons_succ, i64_w, i32_w]
    rfl
  refine pure_ (i := 2) (N := some 42) (v := ?_) (a' := ?_) #[true, true, true, false, false, false, false, false, false, false, false] rfl rfl (by kernel_rfl) (fun _ _ _ h => h) (Or.inl ⟨by rfl, ?_⟩) ?_ ?_
  rotate_left
  · intro w'
    go_simp
    with_reducible rfl
  rotate_left
  · simp only [Act.put, List.setIfInBounds_toArray, List.set_cons_zero, List.set_cons_succ, i64_w, i32_w]
    rfl
  refine take_ (i := 3) (N := some 43) (v := .slice (some ⟨g26, 0, none⟩) s0.last.length ds18_2) (a' := ?_) #[true, true, true, true, false, false, false, false, false, false, false] rfl rfl (by kernel_rfl) (fun _ _ _ h => h) (Or.inl ⟨by rfl, ?_⟩) ⟨(Bk.below F42.out (below_step (below_step (below_step HB47.out HB49.out) HB51.out) HB53.out)), (Bk.below F41.out (below_step (below_step (below_step HB47.out HB49.out) HB51.out) HB53.out)), (StR.last_cell (StR.below F44.out (below_step (below_step (below_step HB47.out HB49.out) HB51.out) HB53.out)) HN0.out HN2.out).2.2.1⟩ ?_ ?_
  · rintro w' ⟨s0_, s1_, s2_⟩
    have hc_ : w'.cell? ⟨g2, 2, none⟩ = some (.slice (some ⟨g26, 0, none⟩) s0.last.length ds18_2) := (Bk.cell s1_ 2).trans rfl
    first | (go_simp; done) | (go_simp; with_reducible rfl) | (go_simp; rfl)
  rotate_left
  · simp only [Act.put, List.setIfInBounds_toArray, List.set_cons_zero, List.set_cons_succ, i64_w, i32_w]
    rfl
  refine pure_ (i := 4) (N := some 44) (v := ?_) (a' := ?_) #[true, true, true, true, true, false, false, false, false, false, false] rfl rfl (by kernel_rfl) (fun _ _ _ h => h) (Or.inl ⟨by rfl, ?_⟩) ?_ ?_
  rotate_left
  · intro w'
    go_simp
    with_reducible rfl
  rotate_left
  · simp only [Act.put, List.setIfInBounds_toArray, List.set_cons_zero, List.set_cons_succ, i64_w, i32_w]
    rfl
  refine take_ (i := 5) (N := some 45) (v := .int .i64 who) (a' := ?_) #[true, true, true, true, true, true, false, false, false, false, false] rfl rfl (by kernel_rfl) (fun _ _ _ h => h) (Or.inl ⟨by rfl, ?_⟩) ⟨(Bk.below F42.out (below_step (below_step (below_step HB47.out HB49.out) HB51.out) HB53.out)), (Bk.below F41.out (below_step (below_step (below_step HB47.out HB49.out) HB51.out) HB53.out)), (StR.last_cell (StR.below F44.out (below_step (below_step (below_step HB47.out HB49.out) HB51.out) HB53.out)) HN0.out HN2.out).2.2.1⟩ ?_ ?_
  · rintro w' ⟨s0_, s1_, s2_⟩
    have hc_ : w'.cell? ⟨g3, 0, none⟩ = some (.int .i64 who) := (Bk.cell s0_ 0).trans rfl
    first | (go_simp; done) | (go_simp; with_reducible rfl) | (go_simp; rfl)
  rotate_left
  · simp only [Act.put, List.setIfInBounds_toArray, List.set_cons_zero, List.set_cons_succ, i64_w, i32_w]
    rfl
  refine pure_ (i := 6) (N := some 46) (v := ?_) (a' := ?_) #[true, true, true, true, true, true, true, false, false, false, false] rfl rfl (by kernel_rfl) (fun _ _ _ h => h) (Or.inl ⟨by rfl, ?_⟩) ?_ ?_
  rotate_left
  · intro w'
    go_simp
    with_reducible rfl
  rotate_left
  · simp only [Act.put, List.setIfInBounds_toArray, List.set_cons_zero, List.set_cons_succ, i64_w, i32_w]
    rfl
  refine take_ (i := 7) (N := some 47) (v := .int .i64 (rd s0.last who)) (a' := ?_) #[true, true, true, true, true, true, true, true, false, false, false] rfl rfl (by kernel_rfl) (fun _ _ _ h => h) (Or.inl ⟨by rfl, ?_⟩) ⟨(Bk.below F42.out (below_step (below_step (below_step HB47.out HB49.out) HB51.out) HB53.out)), (Bk.below F41.out (below_step (below_step (below_step HB47.out HB49.out) HB51.out) HB53.out)), (StR.last_cell (StR.below F44.out (below_step (below_step (below_step HB47.out HB49.out) HB51.out) HB53.out)) HN0.out HN2.out).2.2.1⟩ ?_ ?_
  · rintro w' ⟨s0_, s1_, s2_⟩
    first | (go_simp; done) | (go_simp; with_reducible rfl) | (go_simp; rfl)
  rotate_left
  · simp only [Act.put, List.setIfInBounds_toArray, List.set_cons_zero, List.set_cons_succ, i64_w, i32_w]
    rfl
  refine pure_ (i := 8) (N := some 48) (v := ?_) (a' := ?_) #[true, true, true, true, true, true, true, true, true, false, false] rfl rfl (by kernel_rfl) (fun _ _ _ h => h) (Or.inl ⟨by rfl, ?_⟩) ?_ ?_
  rotate_left
  · intro w'
    go_simp
    with_reducible rfl
  rotate_left
  · simp only [Act.put, List.setIfInBounds_toArray, List.set_cons_zero, List.set_cons_succ, i64_w, i32_w]
    rfl
  refine pure_ (i := 9) (N := some 49) (v := ?_) (a' := ?_) #[true, true, true, true, true, true, true, true, true, true, false] rfl rfl (by kernel_rfl) (fun _ _ _ h => h) (Or.inl ⟨by rfl, ?_⟩) ?_ ?_
  rotate_left
  · intro w'
    go_simp
    with_reducible rfl
  rotate_left
  · simp only [Act.put, List.setIfInBounds_toArray, List.set_cons_zero, List.set_cons_succ, i64_w, i32_w]
    rfl
  refine pure_ (i := 10) (N := some 39) (v := ?_) (a' := ?_) #[true, true, true, true, true, true, true, true, true, true, true] rfl rfl (by kernel_rfl) (fun _ _ _ h => h) (Or.inl ⟨by rfl, ?_⟩) ?_ ?_
  rotate_left
  · intro w'
    go_simp
    with_reducible rfl
  rotate_left
  · simp only [Act.put, List.setIfInBounds_toArray, List.set_cons_zero, List.set_cons_succ, i64_w, i32_w]
    rfl
  refine done_ (by kernel_rfl) ?_
  go_wp2_with (fail)
  refine start_ (n := 20) (S := fun w' => Bk w' g2 #[.slice (some ⟨g30, 0, none⟩) s0.now.length ds18_0, .slice as18_1 s0.sure.length ds18_1, .slice (some ⟨g26, 0, none⟩) s0.last.length ds18_2, .slice as18_3 s0.slast.length ds18_3, .slice (some ⟨g22, 0, none⟩) s0.floors.length ds18_4] 25 ∧ Bk w' g3 #[.int .i64 who, .int .i64 ep, .int .i64 num, .int .i64 obj, .int .i64 at_, .string data] 63 ∧ w'.cell? ⟨g30, obj.toNat, none⟩ = some (.string (rdOf ByteArray.empty s0.now obj))) (ds := [19]) #[false, false, false, false, false, false, false, false, false, false, false, false, false, false, false, false, false, false, false, false] (by kernel_rfl) rfl rfl ⟨(show Bk W52 g2 #[.slice (some ⟨g30, 0, none⟩) s0.now.length ds18_0, .slice as18_1 s0.sure.length ds18_1, .slice (some ⟨g26, 0, none⟩) s0.last.length ds18_2, .slice as18_3 s0.slast.length ds18_3, .slice (some ⟨g22, 0, none⟩) s0.floors.length ds18_4] 25 from (Bk.below F41.out (below_step (below_step (below_step HB47.out HB49.out) HB51.out) HB53.out))), (show Bk W52 g3 #[.int .i64 who, .int .i64 ep, .int .i64 num, .int .i64 obj, .int .i64 at_, .string data] 63 from (Bk.below F42.out (below_step (below_step (below_step HB47.out HB49.out) HB51.out) HB53.out))), (StR.now_cell (StR.below F44.out (below_step (below_step (below_step HB47.out HB49.out) HB51.out) HB53.out)) HN3.out HN4.out).2.2.1⟩ (fun hHeld => ?_)
  clear hHeld
  refine world_at (w := W52) (below_drew0 _) (fun W54 HB55 => ?_)
  refine pure_ (i := 0) (N := some 52) (v := ?_) (a' := ?_) #[true, false, false, false, false, false, false, false, false, false, false, false, false, false, false, false, false, false, false, false] rfl rfl (by kernel_rfl) (fun _ _ _ h => h) (Or.inl ⟨by rfl, ?_⟩) ?_ ?_
  rotate_left
  · intro w'
    go_simp
    with_reducible rfl
  rotate_left
  · simp only [Act.put, List.setIfInBounds_toArray, List.set_cons_zero, List.set_cons_succ, i64_w, i32_w]
    rfl
  refine take_ (i := 1) (N := some 53) (v := .slice (some ⟨g30, 0, none⟩) s0.now.length ds18_0) (a' := ?_) #[true, true, false, false, false, false, false, false, false, false, false, false, false, false, false, false, false, false, false, false] rfl rfl (by kernel_rfl) (fun _ _ _ h => h) (Or.inl ⟨by rfl, ?_⟩) ⟨(Bk.below F41.out (below_step (below_step (below_step (below_step HB47.out HB49.out) HB51.out) HB53.out) HB55.out)), (Bk.below F42.out (below_step (below_step (below_step (below_step HB47.out HB49.out) HB51.out) HB53.out) HB55.out)), (StR.now_cell (StR.below F44.out (below_step (below_step (below_step (below_step HB47.out HB49.out) HB51.out) HB53.out) HB55.out)) HN3.out HN4.out).2.2.1⟩ ?_ ?_
  · rintro w' ⟨s0_, s1_, s2_⟩
    have hc_ : w'.cell? ⟨g2, 0, none⟩ = some (.slice (some ⟨g30, 0, none⟩) s0.now.length ds18_0) := (Bk.cell s0_ 0).trans rfl
    first | (go_simp; done) | (go_simp; with_reducible rfl) | (go_simp; rfl)
  rotate_left
  · simp only [Act.put, List.setIfInBounds_toArray, List.set_cons_zero, List.set_cons_succ, i64_w, i32_w]
    rfl
  refine pure_ (i := 2) (N := some 54) (v := ?_) (a' := ?_) #[true, true, true, false, false, false, false, false, false, false, false, false, false, false, false, false, false, false, false, false] rfl rfl (by kernel_rfl) (fun _ _ _ h => h) (Or.inl ⟨by rfl, ?_⟩) ?_ ?_
  rotate_left
  · intro w'
    go_simp
    with_reducible rfl
  rotate_left
  · simp only [Act.put, List.setIfInBounds_toArray, List.set_cons_zero, List.set_cons_succ, i64_w, i32_w]
    rfl
  refine take_ (i := 3) (N := some 55) (v := .int .i64 obj) (a' := ?_) #[true, true, true, true, false, false, false, false, false, false, false, false, false, false, false, false, false, false, false, false] rfl rfl (by kernel_rfl) (fun _ _ _ h => h) (Or.inl ⟨by rfl, ?_⟩) ⟨(Bk.below F41.out (below_step (below_step (below_step (below_step HB47.out HB49.out) HB51.out) HB53.out) HB55.out)), (Bk.below F42.out (below_step (below_step (below_step (below_step HB47.out HB49.out) HB51.out) HB53.out) HB55.out)), (StR.now_cell (StR.below F44.out (below_step (below_step (below_step (below_step HB47.out HB49.out) HB51.out) HB53.out) HB55.out)) HN3.out HN4.out).2.2.1⟩ ?_ ?_
  · rintro w' ⟨s0_, s1_, s2_⟩
    have hc_ : w'.cell? ⟨g3, 3, none⟩ = some (.int .i64 obj) := (Bk.cell s1_ 3).trans rfl
    first | (go_simp; done) | (go_simp; with_reducible rfl) | (go_simp; rfl)
  rotate_left
  · simp only [Act.put, List.setIfInBounds_toArray, List.set_cons_zero, List.set_cons_succ, i64_w, i32_w]
    rfl
  refine pure_ (i := 4) (N := some 56) (v := ?_) (a' := ?_) #[true, true, true, true, true, false, false, false, false, false, false, false, false, false, false, false, false, false, false, false] rfl rfl (by kernel_rfl) (fun _ _ _ h => h) (Or.inl ⟨by rfl, ?_⟩) ?_ ?_
  rotate_left
  · intro w'
    go_simp
    with_reducible rfl
  rotate_left
  · simp only [Act.put, List.setIfInBounds_toArray, List.set_cons_zero, List.set_cons_succ, i64_w, i32_w]
    rfl
  refine take_ (i := 5) (N := some 57) (v := .slice (some ⟨g30, 0, none⟩) s0.now.length ds18_0) (a' := ?_) #[true, true, true, true, true, true, false, false, false, false, false, false, false, false, false, false, false, false, false, false] rfl rfl (by kernel_rfl) (fun _ _ _ h => h) (Or.inl ⟨by rfl, ?_⟩) ⟨(Bk.below F41.out (below_step (below_step (below_step (below_step HB47.out HB49.out) HB51.out) HB53.out) HB55.out)), (Bk.below F42.out (below_step (below_step (below_step (below_step HB47.out HB49.out) HB51.out) HB53.out) HB55.out)), (StR.now_cell (StR.below F44.out (below_step (below_step (below_step (below_step HB47.out HB49.out) HB51.out) HB53.out) HB55.out)) HN3.out HN4.out).2.2.1⟩ ?_ ?_
  · rintro w' ⟨s0_, s1_, s2_⟩
    have hc_ : w'.cell? ⟨g2, 0, none⟩ = some (.slice (some ⟨g30, 0, none⟩) s0.now.length ds18_0) := (Bk.cell s0_ 0).trans rfl
    first | (go_simp; done) | (go_simp; with_reducible rfl) | (go_simp; rfl)
  rotate_left
  · simp only [Act.put, List.setIfInBounds_toArray, List.set_cons_zero, List.set_cons_succ, i64_w, i32_w]
    rfl
  refine pure_ (i := 6) (N := some 58) (v := ?_) (a' := ?_) #[true, true, true, true, true, true, true, false, false, false, false, false, false, false, false, false, false, false, false, false] rfl rfl (by kernel_rfl) (fun _ _ _ h => h) (Or.inl ⟨by rfl, ?_⟩) ?_ ?_
  rotate_left
  · intro w'
    go_simp
    with_reducible rfl
  rotate_left
  · simp only [Act.put, List.setIfInBounds_toArray, List.set_cons_zero, List.set_cons_succ, i64_w, i32_w]
    rfl
  refine take_ (i := 7) (N := some 59) (v := .int .i64 obj) (a' := ?_) #[true, true, true, true, true, true, true, true, false, false, false, false, false, false, false, false, false, false, false, false] rfl rfl (by kernel_rfl) (fun _ _ _ h => h) (Or.inl ⟨by rfl, ?_⟩) ⟨(Bk.below F41.out (below_step (below_step (below_step (below_step HB47.out HB49.out) HB51.out) HB53.out) HB55.out)), (Bk.below F42.out (below_step (below_step (below_step (below_step HB47.out HB49.out) HB51.out) HB53.out) HB55.out)), (StR.now_cell (StR.below F44.out (below_step (below_step (below_step (below_step HB47.out HB49.out) HB51.out) HB53.out) HB55.out)) HN3.out HN4.out).2.2.1⟩ ?_ ?_
  · rintro w' ⟨s0_, s1_, s2_⟩
    have hc_ : w'.cell? ⟨g3, 3, none⟩ = some (.int .i64 obj) := (Bk.cell s1_ 3).trans rfl
    first | (go_simp; done) | (go_simp; with_reducible rfl) | (go_simp; rfl)
  rotate_left
  · simp only [Act.put, List.setIfInBounds_toArray, List.set_cons_zero, List.set_cons_succ, i64_w, i32_w]
    rfl
  refine pure_ (i := 8) (N := some 60) (v := ?_) (a' := ?_) #[true, true, true, true, true, true, true, true, true, false, false, false, false, false, false, false, false, false, false, false] rfl rfl (by kernel_rfl) (fun _ _ _ h => h) (Or.inl ⟨by rfl, ?_⟩) ?_ ?_
  rotate_left
  · intro w'
    go_simp
    with_reducible rfl
  rotate_left
  · simp only [Act.put, List.setIfInBounds_toArray, List.set_cons_zero, List.set_cons_succ, i64_w, i32_w]
    rfl
  refine take_ (i := 9) (N := some 61) (v := .string (rdOf ByteArray.empty s0.now obj)) (a' := ?_) #[true, true, true, true, true, true, true, true, true, true, false, false, false, false, false, false, false, false, false, false] rfl rfl (by kernel_rfl) (fun _ _ _ h => h) (Or.inl ⟨by rfl, ?_⟩) ⟨(Bk.below F41.out (below_step (below_step (below_step (below_step HB47.out HB49.out) HB51.out) HB53.out) HB55.out)), (Bk.below F42.out (below_step (below_step (below_step (below_step HB47.out HB49.out) HB51.out) HB53.out) HB55.out)), (StR.now_cell (StR.below F44.out (below_step (below_step (below_step (below_step HB47.out HB49.out) HB51.out) HB53.out) HB55.out)) HN3.out HN4.out).2.2.1⟩ ?_ ?_
  · rintro w' ⟨s0_, s1_, s2_⟩
    first | (go_simp; done) | (go_simp; with_reducible rfl) | (go_simp; rfl)
  rotate_left
  · simp only [Act.put, List.setIfInBounds_toArray, List.set_cons_zero, List.set_cons_succ, i64_w, i32_w]
    rfl
  refine pure_ (i := 10) (N := some 62) (v := ?_) (a' := ?_) #[true, true, true, true, true, true, true, true, true, true, true, false, false, false, false, false, false, false, false, false] rfl rfl (by kernel_rfl) (fun _ _ _ h => h) (Or.inl ⟨by rfl, ?_⟩) ?_ ?_
  rotate_left
  · intro w'
    go_simp
    with_reducible rfl
  rotate_left
  · simp only [Act.put, List.setIfInBounds_toArray, List.set_cons_zero, List.set_cons_succ, i64_w, i32_w]
    rfl
  refine take_ (i := 11) (N := some 63) (v := .int .i64 at_) (a' := ?_) #[true, true, true, true, true, true, true, true, true, true, true, true, false, false, false, false, false, false, false, false] rfl rfl (by kernel_rfl) (fun _ _ _ h => h) (Or.inl ⟨by rfl, ?_⟩) ⟨(Bk.below F41.out (below_step (below_step (below_step (below_step HB47.out HB49.out) HB51.out) HB53.out) HB55.out)), (Bk.below F42.out (below_step (below_step (below_step (below_step HB47.out HB49.out) HB51.out) HB53.out) HB55.out)), (StR.now_cell (StR.below F44.out (below_step (below_step (below_step (below_step HB47.out HB49.out) HB51.out) HB53.out) HB55.out)) HN3.out HN4.out).2.2.1⟩ ?_ ?_
  · rintro w' ⟨s0_, s1_, s2_⟩
    have hc_ : w'.cell? ⟨g3, 4, none⟩ = some (.int .i64 at_) := (Bk.cell s1_ 4).trans rfl
    first | (go_simp; done) | (go_simp; with_reducible rfl) | (go_simp; rfl)
  rotate_left
  · simp only [Act.put, List.setIfInBounds_toArray, List.set_cons_zero, List.set_cons_succ, i64_w, i32_w]
    rfl
  refine pure_ (i := 12) (N := some 64) (v := ?_) (a' := ?_) #[true, true, true, true, true, true, true, true, true, true, true, true, true, false, false, false, false, false, false, false] rfl rfl (by kernel_rfl) (fun _ _ _ h => h) (Or.inl ⟨by rfl, ?_⟩) ?_ ?_
  rotate_left
  · intro w'
    go_simp
    with_reducible rfl
  rotate_left
  · simp only [Act.put, List.setIfInBounds_toArray, List.set_cons_zero, List.set_cons_succ, i64_w, i32_w]
    rfl
  refine take_ (i := 13) (N := some 65) (v := .string data) (a' := ?_) #[true, true, true, true, true, true, true, true, true, true, true, true, true, true, false, false, false, false, false, false] rfl rfl (by kernel_rfl) (fun _ _ _ h => h) (Or.inl ⟨by rfl, ?_⟩) ⟨(Bk.below F41.out (below_step (below_step (below_step (below_step HB47.out HB49.out) HB51.out) HB53.out) HB55.out)), (Bk.below F42.out (below_step (below_step (below_step (below_step HB47.out HB49.out) HB51.out) HB53.out) HB55.out)), (StR.now_cell (StR.below F44.out (below_step (below_step (below_step (below_step HB47.out HB49.out) HB51.out) HB53.out) HB55.out)) HN3.out HN4.out).2.2.1⟩ ?_ ?_
  · rintro w' ⟨s0_, s1_, s2_⟩
    have hc_ : w'.cell? ⟨g3, 5, none⟩ = some (.string data) := (Bk.cell s1_ 5).trans rfl
    first | (go_simp; done) | (go_simp; with_reducible rfl) | (go_simp; rfl)
  rotate_left
  · simp only [Act.put, List.setIfInBounds_toArray, List.set_cons_zero, List.set_cons_succ, i64_w, i32_w]
    rfl
  refine one_ (i := 14) (N := some 66) #[true, true, true, true, true, true, true, true, true, true, true, true, true, true, true, false, false, false, false, false] rfl rfl (by kernel_rfl) (by decide) (fun K hK => ?_)
  refine goes_ Try.func73 (by kernel_rfl) rfl #[.string (rdOf ByteArray.empty s0.now obj), .int .i64 at_, .string data] (by rfl) rfl rfl (by (try simp only [List.map_toArray, List.map_cons, List.map_nil]); first | done | rfl) ?_
  refine (impl_TextWrite_c HQ.out HN5.out HWR.out).mono ?_
  rintro e W56 ⟨rfl, hb57⟩
  have HB58 := Aside0.mk hb57
  clear hb57
  refine ⟨_, rfl, ?_⟩
  refine hK.out _ _ ⟨(Bk.below F41.out (below_step (below_step (below_step (below_step (below_step HB47.out HB49.out) HB51.out) HB53.out) HB55.out) HB58.out)), (Bk.below F42.out (below_step (below_step (below_step (below_step (below_step HB47.out HB49.out) HB51.out) HB53.out) HB55.out) HB58.out)), (StR.now_cell (StR.below F44.out (below_step (below_step (below_step (below_step (below_step HB47.out HB49.out) HB51.out) HB53.out) HB55.out) HB58.out)) HN3.out HN4.out).2.2.1⟩ (fun hHeld => ?_)
  clear hHeld hK K
  refine norm_ (a' := ?_) ?_ ?_
  rotate_left
  · show Act.put _ (some 66) _ = _
    simp only [Act.put, List.setIfInBounds_toArray, List.set_cons_zero, List.set_cons_succ, i64_w, i32_w]
    rfl
  refine pure_ (i := 15) (N := some 51) (v := ?_) (a' := ?_) #[true, true, true, true, true, true, true, true, true, true, true, true, true, true, true, true, false, false, false, false] rfl rfl (by kernel_rfl) (fun _ _ _ h => h) (Or.inl ⟨by rfl, ?_⟩) ?_ ?_
  rotate_left
  · intro w'
    go_simp
    with_reducible rfl
  rotate_left
  · simp only [Act.put, List.setIfInBounds_toArray, List.set_cons_zero, List.set_cons_succ, i64_w, i32_w]
    rfl
  refine pure_ (i := 16) (N := some 67) (v := ?_) (a' := ?_) #[true, true, true, true, true, true, true, true, true, true, true, true, true, true, true, true, true, false, false, false] rfl rfl (by kernel_rfl) (fun _ _ _ h => h) (Or.inl ⟨by rfl, ?_⟩) ?_ ?_
  rotate_left
  · intro w'
    go_simp
    with_reducible rfl
  rotate_left
  · simp only [Act.put, List.setIfInBounds_toArray, List.set_cons_zero, List.set_cons_succ, i64_w, i32_w]
    rfl
  refine pure_ (i := 17) (N := some 68) (v := ?_) (a' := ?_) #[true, true, true, true, true, true, true, true, true, true, true, true, true, true, true, true, true, true, false, false] rfl rfl (by kernel_rfl) (fun _ _ _ h => h) (Or.inl ⟨by rfl, ?_⟩) ?_ ?_
  rotate_left
  · intro w'
    go_simp
    with_reducible rfl
  rotate_left
  · simp only [Act.put, List.setIfInBounds_toArray, List.set_cons_zero, List.set_cons_succ, i64_w, i32_w]
    rfl
  refine pure_ (i := 18) (N := some 69) (v := ?_) (a' := ?_) #[true, true, true, true, true, true, true, true, true, true, true, true, true, true, true, true, true, true, true, false] rfl rfl (by kernel_rfl) (fun _ _ _ h => h) (Or.inl ⟨by rfl, ?_⟩) ?_ ?_
  rotate_left
  · intro w'
    go_simp
    with_reducible rfl
  rotate_left
  · simp only [Act.put, List.setIfInBounds_toArray, List.set_cons_zero, List.set_cons_succ, i64_w, i32_w]
    rfl
  refine last_ (i := 19) (N := none) #[true, true, true, true, true, true, true, true, true, true, true, true, true, true, true, true, true, true, true, true] rfl rfl (by kernel_rfl) (by decide) (fun K hK => ?_)
  refine skip_ (w1 := W56.setCell ⟨g30, obj.toNat, none⟩ (.string r)) (by rfl) rfl ?_ ?_
  · have hc_ := (StR.now_cell (StR.below F44.out (below_step (below_step (below_step (below_step (below_step HB47.out HB49.out) HB51.out) HB53.out) HB55.out) HB58.out)) HN3.out HN4.out).2.2.1
    have hf_ := (StR.now_cell (StR.below F44.out (below_step (below_step (below_step (below_step (below_step HB47.out HB49.out) HB51.out) HB53.out) HB55.out) HB58.out)) HN3.out HN4.out).2.2.2.1
    first | (go_simp; done) | (go_simp; rfl)
  refine hK.out _ _ ?_
  clear hK K
  refine done_ (by kernel_rfl) ?_
  refine set_event (fun W59 e60 => ?_)
  have z0_ := HB3.out.size; have z1_ := HG4.out; have z2_ := BK2.out.lt; have z3_ := HB7.out.size; have z4_ := HG8.out; have z5_ := BK6.out.lt; have z6_ := HB11.out.size; have z7_ := HG12.out; have z8_ := BK10.out.lt; have z9_ := HB15.out.size; have z10_ := HB21.out.size; have z11_ := GT23.out; have z12_ := GL24.out; have z13_ := GH25.out; have z14_ := GT27.out; have z15_ := GL28.out; have z16_ := GH29.out; have z17_ := GT31.out; have z18_ := GL32.out; have z19_ := GH33.out; have z20_ := HB38.out.size; have z21_ := HK39.out.1; have z22_ := HB47.out.size; have z23_ := HB49.out.size; have z24_ := HB51.out.size; have z25_ := HB53.out.size; have z26_ := HB55.out.size; have z27_ := HB58.out.size; have HB61 := Aside0.mk (below_at (below_step HB38.out (below_step (below_step (below_step (below_step (below_step HB47.out HB49.out) HB51.out) HB53.out) HB55.out) HB58.out)) (below_setcell e60) (by show w.heap.size ≤ g30; omega)); have HK62 := Aside0.mk (kept_set e60); have F63 := Aside0.mk (StC.below HV0.out HB61.out); have F64 := Aside0.mk (Bk.kept (Bk.below F41.out (below_step (below_step (below_step (below_step (below_step HB47.out HB49.out) HB51.out) HB53.out) HB55.out) HB58.out)) HK62.out (fun h_ => (by obtain ⟨h1_, h2_⟩ := h_; omega))); have F65 := Aside0.mk ((StR.now_cell (StR.below F44.out (below_step (below_step (below_step (below_step (below_step HB47.out HB49.out) HB51.out) HB53.out) HB55.out) HB58.out)) HN3.out HN4.out).2.2.2.2 (r) _ e60); have F66 := Aside0.mk (Bk.kept (Bk.below F42.out (below_step (below_step (below_step (below_step (below_step HB47.out HB49.out) HB51.out) HB53.out) HB55.out) HB58.out)) HK62.out (fun h_ => (by obtain ⟨h1_, h2_⟩ := h_; omega))); have F67 := Aside0.mk (Bk.kept (Bk.below F43.out (below_step (below_step (below_step (below_step (below_step HB47.out HB49.out) HB51.out) HB53.out) HB55.out) HB58.out)) HK62.out (fun h_ => (by obtain ⟨h1_, h2_⟩ := h_; omega))); clear z0_ z1_ z2_ z3_ z4_ z5_ z6_ z7_ z8_ z9_ z10_ z11_ z12_ z13_ z14_ z15_ z16_ z17_ z18_ z19_ z20_ z21_ z22_ z23_ z24_ z25_ z26_ z27_ e60
  go_wp2_with (first | ((with_reducible refine gate_dst (N := 71) rfl ?_); refine ev_val (by rfl) (v := .slice (some ⟨g26, 0, none⟩) s0.last.length ds18_2) ?hr ?_; (case hr => have hc_ : W59.cell? ⟨g2, 2, none⟩ = some (.slice (some ⟨g26, 0, none⟩) s0.last.length ds18_2) := (Bk.cell F64.out 2).trans rfl; first | (go_simp; done) | (go_simp; rfl))) | ((with_reducible refine gate_dst (N := 73) rfl ?_); refine ev_val (by rfl) (v := .int .i64 who) ?hr ?_; (case hr => have hc_ : W59.cell? ⟨g3, 0, none⟩ = some (.int .i64 who) := (Bk.cell F66.out 0).trans rfl; first | (go_simp; done) | (go_simp; rfl))) | ((with_reducible refine gate_dst (N := 75) rfl ?_); refine ev_val (by rfl) (v := .int .i64 num) ?hr ?_; (case hr => have hc_ : W59.cell? ⟨g3, 2, none⟩ = some (.int .i64 num) := (Bk.cell F66.out 2).trans rfl; first | (go_simp; done) | (go_simp; rfl))) | ((with_reducible refine gate_store (t := 3) (p := 76) rfl ?_); refine ev_setcell (by rfl) rfl (g := g26) (i := who.toNat) (v := .int .i64 num) ?hr ?_; (case hr => have hc_ := (StR.last_cell F65.out HN0.out HN2.out).2.2.1; have hf_ := (StR.last_cell F65.out HN0.out HN2.out).2.2.2.1; first | (go_simp; done) | (go_simp; rfl)); intro W68 e69; have z0_ := HB3.out.size; have z1_ := HG4.out; have z2_ := BK2.out.lt; have z3_ := HB7.out.size; have z4_ := HG8.out; have z5_ := BK6.out.lt; have z6_ := HB11.out.size; have z7_ := HG12.out; have z8_ := BK10.out.lt; have z9_ := HB15.out.size; have z10_ := HB21.out.size; have z11_ := GT23.out; have z12_ := GL24.out; have z13_ := GH25.out; have z14_ := GT27.out; have z15_ := GL28.out; have z16_ := GH29.out; have z17_ := GT31.out; have z18_ := GL32.out; have z19_ := GH33.out; have z20_ := HB38.out.size; have z21_ := HK39.out.1; have z22_ := HB47.out.size; have z23_ := HB49.out.size; have z24_ := HB51.out.size; have z25_ := HB53.out.size; have z26_ := HB55.out.size; have z27_ := HB58.out.size; have z28_ := HB61.out.size; have z29_ := HK62.out.1; have HB70 := Aside0.mk (below_at HB61.out (below_setcell e69) (by show w.heap.size ≤ g26; omega)); have HK71 := Aside0.mk (kept_set e69); have F72 := Aside0.mk (StC.below HV0.out HB70.out); have F73 := Aside0.mk (Bk.kept F64.out HK71.out (fun h_ => (by obtain ⟨h1_, h2_⟩ := h_; omega))); have F74 := Aside0.mk ((StR.last_cell F65.out HN0.out HN2.out).2.2.2.2 (num) _ e69); have F75 := Aside0.mk (Bk.kept F66.out HK71.out (fun h_ => (by obtain ⟨h1_, h2_⟩ := h_; omega))); have F76 := Aside0.mk (Bk.kept F67.out HK71.out (fun h_ => (by obtain ⟨h1_, h2_⟩ := h_; omega))); clear z0_ z1_ z2_ z3_ z4_ z5_ z6_ z7_ z8_ z9_ z10_ z11_ z12_ z13_ z14_ z15_ z16_ z17_ z18_ z19_ z20_ z21_ z22_ z23_ z24_ z25_ z26_ z27_ z28_ z29_ e69) | ((with_reducible refine gate_dst (N := 77) rfl ?_); refine ev_load rfl (N := 77) rfl rfl (g := g2) rfl (cs := #[.slice (some ⟨g30, 0, none⟩) s0.now.length ds18_0, .slice as18_1 s0.sure.length ds18_1, .slice (some ⟨g26, 0, none⟩) s0.last.length ds18_2, .slice as18_3 s0.slast.length ds18_3, .slice (some ⟨g22, 0, none⟩) s0.floors.length ds18_4]) F73.out hu25 rfl (by kernel_rfl) ?_) | ((with_reducible refine gate_store (t := 25) (p := 4) rfl ?_); refine ev_put (by rfl) rfl rfl (g := g4) rfl (cs := #[.slice (some ⟨g30, 0, none⟩) s0.now.length ds18_0, .slice as18_1 s0.sure.length ds18_1, .slice (some ⟨g26, 0, none⟩) s0.last.length ds18_2, .slice as18_3 s0.slast.length ds18_3, .slice (some ⟨g22, 0, none⟩) s0.floors.length ds18_4]) rfl F76.out (by kernel_rfl) rfl rfl ?_; intro W77 BK78 HB79 HK80; have z0_ := HB3.out.size; have z1_ := HG4.out; have z2_ := BK2.out.lt; have z3_ := HB7.out.size; have z4_ := HG8.out; have z5_ := BK6.out.lt; have z6_ := HB11.out.size; have z7_ := HG12.out; have z8_ := BK10.out.lt; have z9_ := HB15.out.size; have z10_ := HB21.out.size; have z11_ := GT23.out; have z12_ := GL24.out; have z13_ := GH25.out; have z14_ := GT27.out; have z15_ := GL28.out; have z16_ := GH29.out; have z17_ := GT31.out; have z18_ := GL32.out; have z19_ := GH33.out; have z20_ := HB38.out.size; have z21_ := HK39.out.1; have z22_ := HB47.out.size; have z23_ := HB49.out.size; have z24_ := HB51.out.size; have z25_ := HB53.out.size; have z26_ := HB55.out.size; have z27_ := HB58.out.size; have z28_ := HB61.out.size; have z29_ := HK62.out.1; have z30_ := HB70.out.size; have z31_ := HK71.out.1; have HB81 := Aside0.mk (below_at HB70.out HB79.out (by show w.heap.size ≤ g4; omega)); have HK82 := Aside0.mk (HK80.out); have F83 := Aside0.mk (StC.below HV0.out HB81.out); have F84 := Aside0.mk (Bk.kept F73.out HK82.out (fun h_ => (by obtain ⟨h1_, h2_⟩ := h_; omega))); have F85 := Aside0.mk (StR.kept F74.out HK82.out (fun k_ h_ => (by obtain ⟨h1_, h2_⟩ := h_; omega))); have F86 := Aside0.mk (Bk.kept F75.out HK82.out (fun h_ => (by obtain ⟨h1_, h2_⟩ := h_; omega))); have F87 := Aside0.mk (BK78.out); clear z0_ z1_ z2_ z3_ z4_ z5_ z6_ z7_ z8_ z9_ z10_ z11_ z12_ z13_ z14_ z15_ z16_ z17_ z18_ z19_ z20_ z21_ z22_ z23_ z24_ z25_ z26_ z27_ z28_ z29_ z30_ z31_))
  try go_wp2
  refine bodyPost_ret (results_ct rfl _ _ g4 25 #[.slice (some ⟨g30, 0, none⟩) s0.now.length ds18_0, .slice as18_1 s0.sure.length ds18_1, .slice (some ⟨g26, 0, none⟩) s0.last.length ds18_2, .slice as18_3 s0.slast.length ds18_3, .slice (some ⟨g22, 0, none⟩) s0.floors.length ds18_4] (0, 0) _ rfl F87.out hu25 rfl (by kernel_rfl)) rfl ?_
  exact ⟨_, rfl, StR.widen F85.out (by have z0_ := HB3.out.size; have z1_ := HG4.out; have z2_ := BK2.out.lt; have z3_ := HB7.out.size; have z4_ := HG8.out; have z5_ := BK6.out.lt; have z6_ := HB11.out.size; have z7_ := HG12.out; have z8_ := BK10.out.lt; have z9_ := HB15.out.size; have z10_ := HB21.out.size; have z11_ := GT23.out; have z12_ := GL24.out; have z13_ := GH25.out; have z14_ := GT27.out; have z15_ := GL28.out; have z16_ := GH29.out; have z17_ := GT31.out; have z18_ := GL32.out; have z19_ := GH33.out; have z20_ := HB38.out.size; have z21_ := HK39.out.1; have z22_ := HB47.out.size; have z23_ := HB49.out.size; have z24_ := HB51.out.size; have z25_ := HB53.out.size; have z26_ := HB55.out.size; have z27_ := HB58.out.size; have z28_ := HB61.out.size; have z29_ := HK62.out.1; have z30_ := HB70.out.size; have z31_ := HK71.out.1; have z32_ := HB81.out.size; have z33_ := HK82.out.1; omega) (by have z0_ := HB3.out.size; have z1_ := HG4.out; have z2_ := BK2.out.lt; have z3_ := HB7.out.size; have z4_ := HG8.out; have z5_ := BK6.out.lt; have z6_ := HB11.out.size; have z7_ := HG12.out; have z8_ := BK10.out.lt; have z9_ := HB15.out.size; have z10_ := HB21.out.size; have z11_ := GT23.out; have z12_ := GL24.out; have z13_ := GH25.out; have z14_ := GT27.out; have z15_ := GL28.out; have z16_ := GH29.out; have z17_ := GT31.out; have z18_ := GL32.out; have z19_ := GH33.out; have z20_ := HB38.out.size; have z21_ := HK39.out.1; have z22_ := HB47.out.size; have z23_ := HB49.out.size; have z24_ := HB51.out.size; have z25_ := HB53.out.size; have z26_ := HB55.out.size; have z27_ := HB58.out.size; have z28_ := HB61.out.size; have z29_ := HK62.out.1; have z30_ := HB70.out.size; have z31_ := HK71.out.1; have z32_ := HB81.out.size; have z33_ := HK82.out.1; omega), HB81.out⟩
end Go.Proofs.Ytolmblfffnnabaa.P
namespace Go.Proofs.Ytolmblfffnnabaa.P
open Go.RowKit Go.Proofs.YtolmblfffnnabaaW.PrintWords Go.Proofs.YtolmblfffnnabaaW.PrintLast Go.Proofs.YtolmblfffnnabaaW.PrintMore
attribute [local go_sem] max2_int min2_int max_two min_two
set_option linter.unusedVariables false
set_option linter.unusedSimpArgs false
end Go.Proofs.Ytolmblfffnnabaa.P
namespace Go.Proofs.Ytolmblfffnnabaa.P
open Go.RowKit Go.Proofs.YtolmblfffnnabaaW.PrintWords Go.Proofs.YtolmblfffnnabaaW.PrintLast Go.Proofs.YtolmblfffnnabaaW.PrintMore
attribute [local go_sem] max2_int min2_int max_two min_two
set_option linter.unusedVariables false
set_option linter.unusedSimpArgs false
end Go.Proofs.Ytolmblfffnnabaa.P
namespace Go.Proofs.Ytolmblfffnnabaa.P
open Go.RowKit Go.Proofs.YtolmblfffnnabaaW.PrintWords Go.Proofs.YtolmblfffnnabaaW.PrintLast Go.Proofs.YtolmblfffnnabaaW.PrintMore
theorem whoOk_iff {a : Int} : whoOk a = true ↔ 0 ≤ a ∧ a < 3 := by simp [whoOk]
theorem stOk_lens {s : St} (h : stOk s = true) : s.now.length = 3 ∧ s.sure.length = 3 ∧ s.last.length = 3 ∧ s.slast.length = 3 ∧ s.floors.length = 3 := by
  simp only [stOk, textsOk, lensOk, Bool.and_eq_true, decide_eq_true_eq] at h
  omega
section
variable {w : World} {v : Value} {s t : St} {who ep : Int} {q : Bool}
end
end Go.Proofs.Ytolmblfffnnabaa.P
namespace Go.Proofs.Ytolmblfffnnabaa.P
open Go.RowKit Go.Proofs.YtolmblfffnnabaaW.PrintWords Go.Proofs.YtolmblfffnnabaaW.PrintLast Go.Proofs.YtolmblfffnnabaaW.PrintMore
def doSt (s : St) (q : Rq) : St × Int :=
  if reqOk q = true then (if q.epoch < rd s.floors q.who then (s, 2) else if q.num ≤ rd s.last q.who then (s, 3) else if rd s.last q.who + 1 < q.num then (s, 4)
    else ({ s with now := s.now.set q.obj.toNat (writeText (rdOf ByteArray.empty s.now q.obj) q.at_.toNat q.data), last := s.last.set q.who.toNat q.num }, 0)) else (s, 1)
def storeDo (s : St) (q : Rq) : St × Int := if stOk s = true then doSt s q else (stNone, 1)
theorem doSt_small {s t : St} {q : Rq} {c : Int} (ht : doSt s q = (t, c)) (h : Small s) : Small t := by
  have : Small (doSt s q).1 := by
    unfold doSt
    split
    · split
      · exact h
      · split
        · exact h
        · split
          · exact h
          · exact ⟨by simpa using h.1, h.2.1, by simpa using h.2.2.1, h.2.2.2.1, h.2.2.2.2⟩
    · exact h
  rw [ht] at this
  exact this
theorem storeDo_small {s t : St} {q : Rq} {c : Int} (ht : storeDo s q = (t, c)) (h : Small s) : Small t := by
  unfold storeDo at ht
  split at ht
  · exact doSt_small ht h
  · cases ht
    exact stNone_small
theorem getD_rd {l : List Int} {i : Int} (h0 : 0 ≤ i) (h1 : i < l.length) : rd l i = l.getD i.toNat 0 := by
  obtain ⟨n, rfl⟩ := Int.eq_ofNat_of_zero_le h0
  rw [rd_nat (by omega), Int.toNat_natCast, List.getD_eq_getElem?_getD, List.getElem?_eq_getElem (by omega)]
  rfl
theorem getD_rdOf {l : List ByteArray} {i : Int} (h0 : 0 ≤ i) (h1 : i < l.length) : rdOf ByteArray.empty l i = l.getD i.toNat ByteArray.empty := by
  obtain ⟨n, rfl⟩ := Int.eq_ofNat_of_zero_le h0
  rw [rdOf_nat (by omega), Int.toNat_natCast, List.getD_eq_getElem?_getD, List.getElem?_eq_getElem (by omega)]
  rfl
theorem stOk_num {s : St} (h : stOk s = true) {j : Nat} (hj : j < 3) : 0 ≤ s.slast.getD j 0 ∧ s.slast.getD j 0 ≤ s.last.getD j 0 ∧ s.last.getD j 0 ≤ 1000 ∧ 0 ≤ s.floors.getD j 0 ∧ s.floors.getD j 0 ≤ 100 := by
  simp only [stOk, Bool.and_eq_true] at h
  have := allUp_iff.1 h.2.2.2 j (Nat.zero_le _) (by omega)
  simpa [numOk] using this
theorem stOk_text {s : St} (h : stOk s = true) {j : Nat} (hj : j < 3) : textOk (s.now.getD j ByteArray.empty) = true := by
  have hl := stOk_lens h
  simp only [stOk, textsOk, Bool.and_eq_true, decide_eq_true_eq] at h
  exact allUp_iff.1 h.1.1 j (Nat.zero_le _) (by omega)
section
variable {w0 w : World} {v : Value} {s t : St} {lo hi : Nat} {who ep num obj at_ c : Int} {data : ByteArray}
theorem spec_l5Do_c (hB : Below w0.heap.size w0 w) (hv : StR w lo hi v s) (hlo : w0.heap.size ≤ lo) (hhi : hi ≤ w.heap.size) (hd : data.size ≤ 9223372036854775807) (hk : stOk s = true) (ht : doSt s ⟨who, ep, num, obj, at_, data⟩ = (t, c)) :
    Calls Try.prog 69 #[v, .agg #[.int .i64 who, .int .i64 ep, .int .i64 num, .int .i64 obj, .int .i64 at_, .string data]] w fun e w' => e = .returned (.tuple #[v, .int .i64 c]) ∧ StR w' lo hi v t ∧ Below w0.heap.size w0 w' ∧ Kept w w' (fun k => lo ≤ k ∧ k < hi) := by
  have hl := stOk_lens hk
  unfold doSt at ht
  split at ht
  case isFalse hq =>
    cases ht
    exact spec_l5Do_p1 hB hv hlo hhi who ep num obj at_ data hd (by simpa using hq)
  case isTrue hq =>
    obtain ⟨q0, q1, q2, q3, q4, q5, q6, q7⟩ := reqOk_iff.1 hq
    obtain ⟨h3, h4⟩ := whoOk_iff.1 q0
    have h3 : 0 ≤ who := h3
    have h4 : who < 3 := h4
    have q5 : 0 ≤ obj := q5
    have q6 : obj < 3 := q6
    have b1 : who < s.floors.length := by omega
    have b2 : who < s.last.length := by omega
    have b4 : obj < s.now.length := by omega
    have b5 : textOk (rdOf ByteArray.empty s.now obj) = true := by rw [getD_rdOf q5 b4]; exact stOk_text hk (by omega)
    have hn := stOk_num hk (j := who.toNat) (by omega)
    have hwr : wrap64 (rd s.last who + 1) = rd s.last who + 1 := w64 (by rw [getD_rd h3 b2]; omega) (by rw [getD_rd h3 b2]; omega)
    split at ht
    · cases ht
      exact spec_l5Do_p2 hB hv hlo hhi who ep num obj at_ data hd h3 b1 b2 q5 b4 b5 hq (by assumption)
    · split at ht
      · cases ht
        exact spec_l5Do_p3 hB hv hlo hhi who ep num obj at_ data hd h3 b1 b2 q5 b4 b5 hq (by assumption) (by assumption)
      · split at ht
        · cases ht
          exact spec_l5Do_p4 hB hv hlo hhi who ep num obj at_ data hd h3 b1 b2 q5 b4 b5 hq (by assumption) (by assumption) hwr (by assumption)
        · cases ht
          exact spec_l5Do_p5 hB hv hlo hhi who ep num obj at_ data hd h3 b1 b2 q5 b4 b5 hq (by assumption) (by assumption) hwr (by assumption) rfl
theorem impl_StoreDo_c (hv : StC w v s) (hz : Sized s) (hs : Small s) (hd : data.size ≤ 9223372036854775807) (ht : storeDo s ⟨who, ep, num, obj, at_, data⟩ = (t, c)) :
    Calls Try.prog 44 #[v, .agg #[.int .i64 who, .int .i64 ep, .int .i64 num, .int .i64 obj, .int .i64 at_, .string data]] w fun e w' => ∃ u, e = .returned (.tuple #[u, .int .i64 c]) ∧ StR w' w.heap.size w'.heap.size u t ∧ Below w.heap.size w w' := by
  unfold storeDo at ht
  split at ht
  case isFalse hk =>
    cases ht
    exact impl_StoreDo_p0 hv hz hs who ep num obj at_ data hd (by simpa using hk)
  case isTrue hk =>
  have hl := stOk_lens hk
  unfold doSt at ht
  split at ht
  case isFalse hq =>
    have hq : reqOk ⟨who, ep, num, obj, at_, data⟩ = false := by simpa using hq
    cases ht
    exact impl_StoreDo_p1 hv hz hs who ep num obj at_ data hd hk hq
  case isTrue hq =>
    obtain ⟨q0, q1, q2, q3, q4, q5, q6, q7⟩ := reqOk_iff.1 hq
    obtain ⟨h3, h4⟩ := whoOk_iff.1 q0
    have h3 : 0 ≤ who := h3
    have h4 : who < 3 := h4
    have q5 : 0 ≤ obj := q5
    have q6 : obj < 3 := q6
    have b1 : who < s.floors.length := by omega
    have b2 : who < s.last.length := by omega
    have b4 : obj < s.now.length := by omega
    have b5 : textOk (rdOf ByteArray.empty s.now obj) = true := by rw [getD_rdOf q5 b4]; exact stOk_text hk (by omega)
    have hn := stOk_num hk (j := who.toNat) (by omega)
    have hwr : wrap64 (rd s.last who + 1) = rd s.last who + 1 := w64 (by rw [getD_rd h3 b2]; omega) (by rw [getD_rd h3 b2]; omega)
    split at ht
    · cases ht
      exact impl_StoreDo_p2 hv hz hs who ep num obj at_ data hd h3 b1 b2 q5 b4 b5 hk hq (by assumption)
    · split at ht
      · cases ht
        exact impl_StoreDo_p3 hv hz hs who ep num obj at_ data hd h3 b1 b2 q5 b4 b5 hk hq (by assumption) (by assumption)
      · split at ht
        · cases ht
          exact impl_StoreDo_p4 hv hz hs who ep num obj at_ data hd h3 b1 b2 q5 b4 b5 hk hq (by assumption) (by assumption) hwr (by assumption)
        · cases ht
          exact impl_StoreDo_p5 hv hz hs who ep num obj at_ data hd h3 b1 b2 q5 b4 b5 hk hq (by assumption) (by assumption) hwr (by assumption) rfl
end
end Go.Proofs.Ytolmblfffnnabaa.P
namespace Go.Proofs.Ytolmblfffnnabaa.P
open Go.RowKit Go.Proofs.YtolmblfffnnabaaW.PrintWords Go.Proofs.YtolmblfffnnabaaW.PrintLast Go.Proofs.YtolmblfffnnabaaW.PrintMore
attribute [local go_sem] max2_int min2_int max_two min_two
set_option linter.unusedVariables false
set_option linter.unusedSimpArgs false
set_option maxHeartbeats 8000000 in
set_option maxRecDepth 100000 in
theorem spec_StoreDo_p0 {w : World} {v0 : Value} {s0 : St} (hv0 : StC w v0 s0) (hz0 : Sized s0) (hs0 : Small s0) (who ep num obj at_ : Int) (data : ByteArray) (hd : data.size ≤ 9223372036854775807) (hk : stOk s0 = false) :
    Calls Try.prog 42 #[v0, .agg #[.int .i64 who, .int .i64 ep, .int .i64 num, .int .i64 obj, .int .i64 at_, .string data]] w fun e w' => ∃ u, e = .returned (.tuple #[u, .int .i64 1]) ∧ StR w' w.heap.size w'.heap.size u stNone ∧ Below w.heap.size w w' := by
  have HV0 := Aside0.mk hv0
  have HZ0 := Aside0.mk hz0
  obtain ⟨A0_0, c0_0, A0_1, c0_1, A0_2, c0_2, A0_3, c0_3, A0_4, c0_4, rfl, _⟩ := hv0
  have HS0 := Aside0.mk hs0
  clear hz0 hs0
  have HK := Aside0.mk hk
  have HD := Aside0.mk hd
  clear hk hd
  have hu25 := Try.underlying25
  go_enter Try.func42, Try.ntmps42
  go_wp2_with (first | ((with_reducible refine gate_dst (N := 2) rfl ?_); refine ev_box ?hg (N := 2) ?hd (cs := #[.slice A0_0 s0.now.length c0_0, .slice A0_1 s0.sure.length c0_1, .slice A0_2 s0.last.length c0_2, .slice A0_3 s0.slast.length c0_3, .slice A0_4 s0.floors.length c0_4]) (t := 25) ?hr ?_; (case hd => rfl); (case hg => rfl); (case hr => first | (go_simp; done) | (go_simp; rfl)); intro g2 W1 HG4 BK2 HB3) | ((with_reducible refine gate_dst (N := 3) rfl ?_); refine ev_box ?hg (N := 3) ?hd (cs := #[.int .i64 who, .int .i64 ep, .int .i64 num, .int .i64 obj, .int .i64 at_, .string data]) (t := 63) ?hr ?_; (case hd => rfl); (case hg => rfl); (case hr => first | (go_simp; done) | (go_simp; rfl)); intro g3 W5 HG8 BK6 HB7) | ((with_reducible refine gate_dst (N := 4) rfl ?_); refine ev_box ?hg (N := 4) ?hd (cs := #[.slice none 0 0, .slice none 0 0, .slice none 0 0, .slice none 0 0, .slice none 0 0]) (t := 25) ?hr ?_; (case hd => rfl); (case hg => rfl); (case hr => first | (go_simp; done) | (go_simp; rfl)); intro g4 W9 HG12 BK10 HB11) | ((with_reducible refine gate_dst (N := 6) rfl ?_); refine ev_load rfl (N := 6) rfl rfl (g := g2) rfl (cs := #[.slice A0_0 s0.now.length c0_0, .slice A0_1 s0.sure.length c0_1, .slice A0_2 s0.last.length c0_2, .slice A0_3 s0.slast.length c0_3, .slice A0_4 s0.floors.length c0_4]) (Bk.below BK2.out (below_step HB7.out HB11.out)) hu25 rfl (by kernel_rfl) ?_))
  refine (spec_StoreOk_q (StC.below HV0.out (below_step (below_step HB3.out HB7.out) HB11.out)) HZ0.out HK.out).mono ?_
  rintro e W13 ⟨rfl, hb14⟩
  have HB15 := Aside0.mk hb14
  clear hb14
  go_wp2_with (first | ((with_reducible refine gate_store (t := 25) (p := 4) rfl ?_); refine ev_put (by rfl) rfl rfl (g := g4) rfl (cs := #[.slice none 0 0, .slice none 0 0, .slice none 0 0, .slice none 0 0, .slice none 0 0]) rfl (Bk.below BK10.out HB15.out) (by kernel_rfl) rfl rfl ?_; intro W16 BK17 HB18 HK19; have z0_ := HB3.out.size; have z1_ := HG4.out; have z2_ := BK2.out.lt; have z3_ := HB7.out.size; have z4_ := HG8.out; have z5_ := BK6.out.lt; have z6_ := HB11.out.size; have z7_ := HG12.out; have z8_ := BK10.out.lt; have z9_ := HB15.out.size; have HB20 := Aside0.mk (below_at (below_step (below_step (below_step HB3.out HB7.out) HB11.out) HB15.out) HB18.out (by show w.heap.size ≤ g4; omega)); have HK21 := Aside0.mk (HK19.out); have F22 := Aside0.mk (StC.below HV0.out HB20.out); have F23 := Aside0.mk (Bk.kept (Bk.below BK2.out (below_step (below_step HB7.out HB11.out) HB15.out)) HK21.out (fun h_ => (by obtain ⟨h1_, h2_⟩ := h_; omega))); have F24 := Aside0.mk (Bk.kept (Bk.below BK6.out (below_step HB11.out HB15.out)) HK21.out (fun h_ => (by obtain ⟨h1_, h2_⟩ := h_; omega))); have F25 := Aside0.mk (BK17.out); clear z0_ z1_ z2_ z3_ z4_ z5_ z6_ z7_ z8_ z9_))
  try go_wp2
  refine bodyPost_ret (results_ct rfl _ _ g4 25 #[.slice none 0 0, .slice none 0 0, .slice none 0 0, .slice none 0 0, .slice none 0 0] (0, 0) _ rfl F25.out hu25 rfl (by kernel_rfl)) rfl ?_
  exact ⟨_, rfl, StR.zero _ _, HB20.out⟩
set_option maxHeartbeats 8000000 in
set_option maxRecDepth 100000 in
theorem spec_StoreDo_p1 {w : World} {v0 : Value} {s0 : St} (hv0 : StC w v0 s0) (hz0 : Sized s0) (hs0 : Small s0) (who ep num obj at_ : Int) (data : ByteArray) (hd : data.size ≤ 9223372036854775807) {t : St} {c : Int} (hk : stOk s0 = true) (ht : doSt s0 ⟨who, ep, num, obj, at_, data⟩ = (t, c)) :
    Calls Try.prog 42 #[v0, .agg #[.int .i64 who, .int .i64 ep, .int .i64 num, .int .i64 obj, .int .i64 at_, .string data]] w fun e w' => ∃ u, e = .returned (.tuple #[u, .int .i64 c]) ∧ StR w' w.heap.size w'.heap.size u t ∧ Below w.heap.size w w' := by
  have HV0 := Aside0.mk hv0
  have HZ0 := Aside0.mk hz0
  obtain ⟨A0_0, c0_0, A0_1, c0_1, A0_2, c0_2, A0_3, c0_3, A0_4, c0_4, rfl, _⟩ := hv0
  have HS0 := Aside0.mk hs0
  clear hz0 hs0
  have HK := Aside0.mk hk
  have HD := Aside0.mk hd
  clear hk hd
  have HT := Aside0.mk ht
  clear ht
  have hu25 := Try.underlying25
  have hu63 := Try.underlying63
  go_enter Try.func42, Try.ntmps42
  go_wp2_with (first | ((with_reducible refine gate_dst (N := 2) rfl ?_); refine ev_box ?hg (N := 2) ?hd (cs := #[.slice A0_0 s0.now.length c0_0, .slice A0_1 s0.sure.length c0_1, .slice A0_2 s0.last.length c0_2, .slice A0_3 s0.slast.length c0_3, .slice A0_4 s0.floors.length c0_4]) (t := 25) ?hr ?_; (case hd => rfl); (case hg => rfl); (case hr => first | (go_simp; done) | (go_simp; rfl)); intro g2 W1 HG4 BK2 HB3) | ((with_reducible refine gate_dst (N := 3) rfl ?_); refine ev_box ?hg (N := 3) ?hd (cs := #[.int .i64 who, .int .i64 ep, .int .i64 num, .int .i64 obj, .int .i64 at_, .string data]) (t := 63) ?hr ?_; (case hd => rfl); (case hg => rfl); (case hr => first | (go_simp; done) | (go_simp; rfl)); intro g3 W5 HG8 BK6 HB7) | ((with_reducible refine gate_dst (N := 4) rfl ?_); refine ev_box ?hg (N := 4) ?hd (cs := #[.slice none 0 0, .slice none 0 0, .slice none 0 0, .slice none 0 0, .slice none 0 0]) (t := 25) ?hr ?_; (case hd => rfl); (case hg => rfl); (case hr => first | (go_simp; done) | (go_simp; rfl)); intro g4 W9 HG12 BK10 HB11) | ((with_reducible refine gate_dst (N := 6) rfl ?_); refine ev_load rfl (N := 6) rfl rfl (g := g2) rfl (cs := #[.slice A0_0 s0.now.length c0_0, .slice A0_1 s0.sure.length c0_1, .slice A0_2 s0.last.length c0_2, .slice A0_3 s0.slast.length c0_3, .slice A0_4 s0.floors.length c0_4]) (Bk.below BK2.out (below_step HB7.out HB11.out)) hu25 rfl (by kernel_rfl) ?_))
  refine (spec_StoreOk_q (StC.below HV0.out (below_step (below_step HB3.out HB7.out) HB11.out)) HZ0.out HK.out).mono ?_
  rintro e W13 ⟨rfl, hb14⟩
  have HB15 := Aside0.mk hb14
  clear hb14
  go_wp2_with (fail)
  refine start_ (n := 8) (S := fun w' => Bk w' g2 #[.slice A0_0 s0.now.length c0_0, .slice A0_1 s0.sure.length c0_1, .slice A0_2 s0.last.length c0_2, .slice A0_3 s0.slast.length c0_3, .slice A0_4 s0.floors.length c0_4] 25 ∧ Bk w' g3 #[.int .i64 who, .int .i64 ep, .int .i64 num, .int .i64 obj, .int .i64 at_, .string data] 63) (ds := []) #[false, false, false, false, false, false, false, false] (by kernel_rfl) rfl rfl ⟨(show Bk W13 g2 #[.slice A0_0 s0.now.length c0_0, .slice A0_1 s0.sure.length c0_1, .slice A0_2 s0.last.length c0_2, .slice A0_3 s0.slast.length c0_3, .slice A0_4 s0.floors.length c0_4] 25 from (Bk.below BK2.out (below_step (below_step HB7.out HB11.out) HB15.out))), (show Bk W13 g3 #[.int .i64 who, .int .i64 ep, .int .i64 num, .int .i64 obj, .int .i64 at_, .string data] 63 from (Bk.below BK6.out (below_step HB11.out HB15.out)))⟩ (fun hHeld => ?_)
  clear hHeld
  refine world_at (w := W13) (below_drew0 _) (fun W16 HB17 => ?_)
  refine take_ (i := 0) (N := some 10) (v := .agg #[.slice A0_0 s0.now.length c0_0, .slice A0_1 s0.sure.length c0_1, .slice A0_2 s0.last.length c0_2, .slice A0_3 s0.slast.length c0_3, .slice A0_4 s0.floors.length c0_4]) (a' := ?_) #[true, false, false, false, false, false, false, false] rfl rfl (by kernel_rfl) (fun _ _ _ h => h) (Or.inl ⟨by rfl, ?_⟩) ⟨(Bk.below BK2.out (below_step (below_step (below_step HB7.out HB11.out) HB15.out) HB17.out)), (Bk.below BK6.out (below_step (below_step HB11.out HB15.out) HB17.out))⟩ ?_ ?_
  · rintro w' ⟨s0_, s1_⟩
    exact run_load_ev rfl rfl s0_ hu25 rfl (by kernel_rfl)
  rotate_left
  · simp only [Act.put, List.setIfInBounds_toArray, List.set_cons_zero, List.set_cons_succ, i64_w, i32_w]
    rfl
  refine take_ (i := 2) (N := some 12) (v := .agg #[.int .i64 who, .int .i64 ep, .int .i64 num, .int .i64 obj, .int .i64 at_, .string data]) (a' := ?_) #[true, false, true, false, false, false, false, false] rfl rfl (by kernel_rfl) (fun _ _ _ h => h) (Or.inl ⟨by rfl, ?_⟩) ⟨(Bk.below BK2.out (below_step (below_step (below_step HB7.out HB11.out) HB15.out) HB17.out)), (Bk.below BK6.out (below_step (below_step HB11.out HB15.out) HB17.out))⟩ ?_ ?_
  · rintro w' ⟨s0_, s1_⟩
    exact run_load_ev rfl rfl s1_ hu63 rfl (by kernel_rfl)
  rotate_left
  · simp only [Act.put, List.setIfInBounds_toArray, List.set_cons_zero, List.set_cons_succ, i64_w, i32_w]
    rfl
  refine one_ (i := 1) (N := some 11) #[true, true, true, false, false, false, false, false] rfl rfl (by kernel_rfl) (by decide) (fun K hK => ?_)
  refine goes_ Try.func62 (by kernel_rfl) rfl #[.agg #[.slice A0_0 s0.now.length c0_0, .slice A0_1 s0.sure.length c0_1, .slice A0_2 s0.last.length c0_2, .slice A0_3 s0.slast.length c0_3, .slice A0_4 s0.floors.length c0_4]] (by rfl) rfl rfl (by (try simp only [List.map_toArray, List.map_cons, List.map_nil]); first | done | rfl) ?_
  refine (spec_l5Copy_c (StC.below HV0.out (below_step (below_step (below_step (below_step HB3.out HB7.out) HB11.out) HB15.out) HB17.out)) HS0.out).mono ?_
  rintro e W21 ⟨u18, rfl, hr19, hb22⟩
  have HB23 := Aside0.mk hb22
  clear hb22
  have HRs20 := Aside0.mk hr19
  obtain ⟨as20_0, ds20_0, as20_1, ds20_1, as20_2, ds20_2, as20_3, ds20_3, as20_4, ds20_4, rfl, _⟩ := hr19.toC
  clear hr19
  refine ⟨_, rfl, ?_⟩
  refine hK.out _ _ ⟨(Bk.below BK2.out (below_step (below_step (below_step (below_step HB7.out HB11.out) HB15.out) HB17.out) HB23.out)), (Bk.below BK6.out (below_step (below_step (below_step HB11.out HB15.out) HB17.out) HB23.out))⟩ (fun hHeld => ?_)
  clear hHeld hK K
  refine norm_ (a' := ?_) ?_ ?_
  rotate_left
  · show Act.put _ (some 11) _ = _
    simp only [Act.put, List.setIfInBounds_toArray, List.set_cons_zero, List.set_cons_succ, i64_w, i32_w]
    rfl
  refine one_ (i := 3) (N := some 13) #[true, true, true, true, false, false, false, false] rfl rfl (by kernel_rfl) (by decide) (fun K hK => ?_)
  refine goes_ Try.func69 (by kernel_rfl) rfl #[.agg #[.slice as20_0 s0.now.length ds20_0, .slice as20_1 s0.sure.length ds20_1, .slice as20_2 s0.last.length ds20_2, .slice as20_3 s0.slast.length ds20_3, .slice as20_4 s0.floors.length ds20_4], .agg #[.int .i64 who, .int .i64 ep, .int .i64 num, .int .i64 obj, .int .i64 at_, .string data]] (by rfl) rfl rfl (by (try simp only [List.map_toArray, List.map_cons, List.map_nil]); first | done | rfl) ?_
  refine (spec_l5Do_c (w0 := w) (below_step (below_step (below_step (below_step (below_step HB3.out HB7.out) HB11.out) HB15.out) HB17.out) HB23.out) HRs20.out (by have z0_ := HB3.out.size; have z1_ := HG4.out; have z2_ := BK2.out.lt; have z3_ := HB7.out.size; have z4_ := HG8.out; have z5_ := BK6.out.lt; have z6_ := HB11.out.size; have z7_ := HG12.out; have z8_ := BK10.out.lt; have z9_ := HB15.out.size; have z10_ := HB17.out.size; have z11_ := HB23.out.size; omega) (by have z0_ := HB3.out.size; have z1_ := HG4.out; have z2_ := BK2.out.lt; have z3_ := HB7.out.size; have z4_ := HG8.out; have z5_ := BK6.out.lt; have z6_ := HB11.out.size; have z7_ := HG12.out; have z8_ := BK10.out.lt; have z9_ := HB15.out.size; have z10_ := HB17.out.size; have z11_ := HB23.out.size; omega) HD.out HK.out HT.out).mono ?_
  rintro e W26 ⟨rfl, hm24, hb27, hk25⟩
  have z0_ := HB3.out.size
  have z1_ := HG4.out
  have z2_ := BK2.out.lt
  have z3_ := HB7.out.size
  have z4_ := HG8.out
  have z5_ := BK6.out.lt
  have z6_ := HB11.out.size
  have z7_ := HG12.out
  have z8_ := BK10.out.lt
  have z9_ := HB15.out.size
  have z10_ := HB17.out.size
  have z11_ := HB23.out.size
  have HB29 := Aside0.mk (hb27)
  have HK30 := Aside0.mk (hk25)
  have F31 := Aside0.mk (StC.below HV0.out HB29.out)
  have F32 := Aside0.mk (Bk.kept (Bk.below BK2.out (below_step (below_step (below_step (below_step HB7.out HB11.out) HB15.out) HB17.out) HB23.out)) HK30.out (fun h_ => (by obtain ⟨h1_, h2_⟩ := h_; omega)))
  have F33 := Aside0.mk (Bk.kept (Bk.below BK6.out (below_step (below_step (below_step HB11.out HB15.out) HB17.out) HB23.out)) HK30.out (fun h_ => (by obtain ⟨h1_, h2_⟩ := h_; omega)))
  have F34 := Aside0.mk (Bk.kept (Bk.below BK10.out (below_step (below_step HB15.out HB17.out) HB23.out)) HK30.out (fun h_ => (by obtain ⟨h1_, h2_⟩ := h_; omega)))
  have F35 := Aside0.mk (hm24)
  clear z0_ z1_ z2_ z3_ z4_ z5_ z6_ z7_ z8_ z9_ z10_ z11_ hb27 hk25 hm24
  refine ⟨_, rfl, ?_⟩
  refine hK.out _ _ ⟨F32.out, F33.out⟩ (fun hHeld => ?_)
  clear hHeld hK K
  refine norm_ (a' := ?_) ?_ ?_
  rotate_left
  · show Act.put _ (some 13) _ = _
    simp only [Act.put, List.setIfInBounds_toArray, List.set_cons_zero, List.set_cons_succ, i64_w, i32_w]
    rfl
  refine pure_ (i := 4) (N := some 14) (v := ?_) (a' := ?_) #[true, true, true, true, true, false, false, false] rfl rfl (by kernel_rfl) (fun _ _ _ h => h) (Or.inl ⟨by rfl, ?_⟩) ?_ ?_
  rotate_left
  · intro w'
    go_simp
    with_reducible rfl
  rotate_left
  · simp only [Act.put, List.setIfInBounds_toArray, List.set_cons_zero, List.set_cons_succ, i64_w, i32_w]
    rfl
  refine pure_ (i := 5) (N := some 15) (v := ?_) (a' := ?_) #[true, true, true, true, true, true, false, false] rfl rfl (by kernel_rfl) (fun _ _ _ h => h) (Or.inl ⟨by rfl, ?_⟩) ?_ ?_
  rotate_left
  · intro w'
    go_simp
    with_reducible rfl
  rotate_left
  · simp only [Act.put, List.setIfInBounds_toArray, List.set_cons_zero, List.set_cons_succ, i64_w, i32_w]
    rfl
  refine one_ (i := 6) (N := none) #[true, true, true, true, true, true, true, false] rfl rfl (by kernel_rfl) (by decide) (fun K hK => ?_)
  refine wp_storeRow_step (by rfl) rfl rfl (g := g4) (cs := #[.slice as20_0 s0.now.length ds20_0, .slice as20_1 s0.sure.length ds20_1, .slice as20_2 s0.last.length ds20_2, .slice as20_3 s0.slast.length ds20_3, .slice as20_4 s0.floors.length ds20_4]) rfl rfl F34.out (by kernel_rfl) rfl rfl ?_
  intro W36 hbk37 hg38
  have z0_ := HB3.out.size
  have z1_ := HG4.out
  have z2_ := BK2.out.lt
  have z3_ := HB7.out.size
  have z4_ := HG8.out
  have z5_ := BK6.out.lt
  have z6_ := HB11.out.size
  have z7_ := HG12.out
  have z8_ := BK10.out.lt
  have z9_ := HB15.out.size
  have z10_ := HB17.out.size
  have z11_ := HB23.out.size
  have z12_ := HB29.out.size
  have z13_ := HK30.out.1
  have HB39 := Aside0.mk (below_at HB29.out hg38.1 (by show w.heap.size ≤ g4; omega))
  have HK40 := Aside0.mk (kept_row hg38)
  have F41 := Aside0.mk (StC.below HV0.out HB39.out)
  have F42 := Aside0.mk (Bk.kept F32.out HK40.out (fun h_ => (by obtain ⟨h1_, h2_⟩ := h_; omega)))
  have F43 := Aside0.mk (Bk.kept F33.out HK40.out (fun h_ => (by obtain ⟨h1_, h2_⟩ := h_; omega)))
  have F44 := Aside0.mk (hbk37)
  have F45 := Aside0.mk (StR.kept F35.out HK40.out (fun k_ h_ => (by obtain ⟨h1_, h2_⟩ := h_; omega)))
  clear z0_ z1_ z2_ z3_ z4_ z5_ z6_ z7_ z8_ z9_ z10_ z11_ z12_ z13_ hbk37 hg38
  refine hK.out _ _ ⟨F42.out, F43.out⟩ (fun hHeld => ?_)
  clear hHeld hK K
  refine norm_ (a' := ?_) ?_ ?_
  rotate_left
  · show Act.put _ none _ = _
    simp only [Act.put, List.setIfInBounds_toArray, List.set_cons_zero, List.set_cons_succ, i64_w, i32_w]
    rfl
  refine pure_ (i := 7) (N := some 5) (v := ?_) (a' := ?_) #[true, true, true, true, true, true, true, true] rfl rfl (by kernel_rfl) (fun _ _ _ h => h) (Or.inl ⟨by rfl, ?_⟩) ?_ ?_
  rotate_left
  · intro w'
    go_simp
    with_reducible rfl
  rotate_left
  · simp only [Act.put, List.setIfInBounds_toArray, List.set_cons_zero, List.set_cons_succ, i64_w, i32_w]
    rfl
  refine done_ (by kernel_rfl) ?_
  go_wp2_with (fail)
  try go_wp2
  refine bodyPost_ret (results_ct rfl _ _ g4 25 #[.slice as20_0 s0.now.length ds20_0, .slice as20_1 s0.sure.length ds20_1, .slice as20_2 s0.last.length ds20_2, .slice as20_3 s0.slast.length ds20_3, .slice as20_4 s0.floors.length ds20_4] (0, 0) _ rfl F44.out hu25 rfl (by kernel_rfl)) rfl ?_
  exact ⟨_, rfl, StR.widen F45.out (by have z0_ := HB3.out.size; have z1_ := HG4.out; have z2_ := BK2.out.lt; have z3_ := HB7.out.size; have z4_ := HG8.out; have z5_ := BK6.out.lt; have z6_ := HB11.out.size; have z7_ := HG12.out; have z8_ := BK10.out.lt; have z9_ := HB15.out.size; have z10_ := HB17.out.size; have z11_ := HB23.out.size; have z12_ := HB29.out.size; have z13_ := HK30.out.1; have z14_ := HB39.out.size; have z15_ := HK40.out.1; omega) (by have z0_ := HB3.out.size; have z1_ := HG4.out; have z2_ := BK2.out.lt; have z3_ := HB7.out.size; have z4_ := HG8.out; have z5_ := BK6.out.lt; have z6_ := HB11.out.size; have z7_ := HG12.out; have z8_ := BK10.out.lt; have z9_ := HB15.out.size; have z10_ := HB17.out.size; have z11_ := HB23.out.size; have z12_ := HB29.out.size; have z13_ := HK30.out.1; have z14_ := HB39.out.size; have z15_ := HK40.out.1; omega), HB39.out⟩
end Go.Proofs.Ytolmblfffnnabaa.P
namespace Go.Proofs.Ytolmblfffnnabaa.P
open Go.RowKit Go.Proofs.YtolmblfffnnabaaW.PrintWords Go.Proofs.YtolmblfffnnabaaW.PrintLast Go.Proofs.YtolmblfffnnabaaW.PrintMore
attribute [local go_sem] max2_int min2_int max_two min_two max_three min_three max_four min_four   
set_option linter.unusedVariables false
set_option linter.unusedSimpArgs false
def laws_szReq.f (a0_0 : Int) (a0_1 : Int) (a0_2 : Int) (a0_3 : Int) (a0_4 : Int) (a0_5 : ByteArray) (a1 : Int) : Option (Int) := if (wrap64 (a1 - (a0_5.size : Int))) < 0 then (some (-1)) else (some (wrap64 (a1 - (a0_5.size : Int))))
set_option maxHeartbeats 8000000 in
set_option maxRecDepth 100000 in
theorem laws_szReq.calls (a0_0 : Int) (a0_1 : Int) (a0_2 : Int) (a0_3 : Int) (a0_4 : Int) (a0_5 : ByteArray) (a1 : Int) (r : Int) (w : World) (h : laws_szReq.f a0_0 a0_1 a0_2 a0_3 a0_4 a0_5 a1 = some r) :
    Calls Try.prog 41 #[.agg #[.int .i64 a0_0, .int .i64 a0_1, .int .i64 a0_2, .int .i64 a0_3, .int .i64 a0_4, .string a0_5], .int .i64 a1] w fun e w' => e = .returned (.int .i64 r) ∧ Below w.heap.size w w' := by
  have hu59 := Try.underlying59
  have HB := Aside0.mk (Below.refl w.heap.size w)
  have H : (if (wrap64 (a1 - (a0_5.size : Int))) < 0 then (some (-1)) else (some (wrap64 (a1 - (a0_5.size : Int))))) = some r := h
  clear h
  by_cases c3 : (wrap64 (a1 - (a0_5.size : Int))) < 0
  · rw [if_pos c3] at H
    have c3b0 : decide ((wrap64 (a1 - (a0_5.size : Int))) < 0) = true := decide_eq_true c3
    clear c3
    obtain rfl := Option.some.inj H
    go_enter Try.func41, Try.ntmps41
    go_wp2_with (first | ((with_reducible refine gate_dst (N := 2) rfl ?_); refine box_event ?hg (N := 2) ?hd (cs := #[.int .i64 a0_0, .int .i64 a0_1, .int .i64 a0_2, .int .i64 a0_3, .int .i64 a0_4, .string a0_5]) (t := 59) ?hr ?_; (case hd => rfl); (case hg => rfl); (case hr => first | (go_simp; done) | (go_simp; rfl)); intro gb1133 hg w4 hbox hb; have n0_ := Aside0.mk (below_step (by repeat (first | (with_reducible first | exact HB.out | apply below_alloc | apply pw_below_drewN | apply below_drew1) | exact HB.out)) hb); have n1_ := Aside0.mk (hbox); have n2_ := Aside0.mk ((by rw [hg]; exact (below_size (by repeat (first | (with_reducible first | exact HB.out | apply below_alloc | apply pw_below_drewN | apply below_drew1) | exact HB.out))) : w.heap.size ≤ gb1133)); have n3_ := Aside0.mk ((by rw [hg]; exact (below_size (by repeat (first | (with_reducible first | exact HB.out | apply below_alloc | apply pw_below_drewN | apply below_drew1) | exact HB.out))) : w.heap.size ≤ gb1133)); clear HB; have HB := n0_; have BK1133 := n1_; have GW1133 := n2_; have GE1133 := n3_; clear n0_ n1_ n2_ n3_; clear hb hbox hg; have hcz5_0 : w4.cell? ⟨gb1133, 0, none⟩ = some (.int .i64 a0_0) := (blk_cell BK1133.out 0).trans rfl; have hcz5_1 : w4.cell? ⟨gb1133, 1, none⟩ = some (.int .i64 a0_1) := (blk_cell BK1133.out 1).trans rfl; have hcz5_2 : w4.cell? ⟨gb1133, 2, none⟩ = some (.int .i64 a0_2) := (blk_cell BK1133.out 2).trans rfl; have hcz5_3 : w4.cell? ⟨gb1133, 3, none⟩ = some (.int .i64 a0_3) := (blk_cell BK1133.out 3).trans rfl; have hcz5_4 : w4.cell? ⟨gb1133, 4, none⟩ = some (.int .i64 a0_4) := (blk_cell BK1133.out 4).trans rfl; have hcz5_5 : w4.cell? ⟨gb1133, 5, none⟩ = some (.string a0_5) := (blk_cell BK1133.out 5).trans rfl; have hfz5_0 := blk_frozen BK1133.out 0; have hfz5_1 := blk_frozen BK1133.out 1; have hfz5_2 := blk_frozen BK1133.out 2; have hfz5_3 := blk_frozen BK1133.out 3; have hfz5_4 := blk_frozen BK1133.out 4; have hfz5_5 := blk_frozen BK1133.out 5))
    go_ret
    exact ⟨by first | rfl | (simp [errW_none, errW_some] <;> rfl) | (simp [*, errW_none, errW_some] <;> rfl), by repeat (first | (with_reducible first | exact HB.out | apply below_alloc | apply pw_below_drewN | apply below_drew1 | refine below_set ?_ GE1133.out) | exact HB.out)⟩
  · rw [if_neg c3] at H
    have c3b0 : decide ((wrap64 (a1 - (a0_5.size : Int))) < 0) = false := decide_eq_false c3
    clear c3
    obtain rfl := Option.some.inj H
    go_enter Try.func41, Try.ntmps41
    go_wp2_with (first | ((with_reducible refine gate_dst (N := 2) rfl ?_); refine box_event ?hg (N := 2) ?hd (cs := #[.int .i64 a0_0, .int .i64 a0_1, .int .i64 a0_2, .int .i64 a0_3, .int .i64 a0_4, .string a0_5]) (t := 59) ?hr ?_; (case hd => rfl); (case hg => rfl); (case hr => first | (go_simp; done) | (go_simp; rfl)); intro gb1133 hg w6 hbox hb; have n0_ := Aside0.mk (below_step (by repeat (first | (with_reducible first | exact HB.out | apply below_alloc | apply pw_below_drewN | apply below_drew1) | exact HB.out)) hb); have n1_ := Aside0.mk (hbox); have n2_ := Aside0.mk ((by rw [hg]; exact (below_size (by repeat (first | (with_reducible first | exact HB.out | apply below_alloc | apply pw_below_drewN | apply below_drew1) | exact HB.out))) : w.heap.size ≤ gb1133)); have n3_ := Aside0.mk ((by rw [hg]; exact (below_size (by repeat (first | (with_reducible first | exact HB.out | apply below_alloc | apply pw_below_drewN | apply below_drew1) | exact HB.out))) : w.heap.size ≤ gb1133)); clear HB; have HB := n0_; have BK1133 := n1_; have GW1133 := n2_; have GE1133 := n3_; clear n0_ n1_ n2_ n3_; clear hb hbox hg; have hcz7_0 : w6.cell? ⟨gb1133, 0, none⟩ = some (.int .i64 a0_0) := (blk_cell BK1133.out 0).trans rfl; have hcz7_1 : w6.cell? ⟨gb1133, 1, none⟩ = some (.int .i64 a0_1) := (blk_cell BK1133.out 1).trans rfl; have hcz7_2 : w6.cell? ⟨gb1133, 2, none⟩ = some (.int .i64 a0_2) := (blk_cell BK1133.out 2).trans rfl; have hcz7_3 : w6.cell? ⟨gb1133, 3, none⟩ = some (.int .i64 a0_3) := (blk_cell BK1133.out 3).trans rfl; have hcz7_4 : w6.cell? ⟨gb1133, 4, none⟩ = some (.int .i64 a0_4) := (blk_cell BK1133.out 4).trans rfl; have hcz7_5 : w6.cell? ⟨gb1133, 5, none⟩ = some (.string a0_5) := (blk_cell BK1133.out 5).trans rfl; have hfz7_0 := blk_frozen BK1133.out 0; have hfz7_1 := blk_frozen BK1133.out 1; have hfz7_2 := blk_frozen BK1133.out 2; have hfz7_3 := blk_frozen BK1133.out 3; have hfz7_4 := blk_frozen BK1133.out 4; have hfz7_5 := blk_frozen BK1133.out 5))
    go_ret
    exact ⟨by first | rfl | (simp [errW_none, errW_some] <;> rfl) | (simp [*, errW_none, errW_some] <;> rfl), by repeat (first | (with_reducible first | exact HB.out | apply below_alloc | apply pw_below_drewN | apply below_drew1 | refine below_set ?_ GE1133.out) | exact HB.out)⟩
end Go.Proofs.Ytolmblfffnnabaa.P
namespace Go.Proofs.Ytolmblfffnnabaa.P
open Go.RowKit Go.Proofs.YtolmblfffnnabaaW.PrintWords Go.Proofs.YtolmblfffnnabaaW.PrintLast Go.Proofs.YtolmblfffnnabaaW.PrintMore
attribute [local go_sem] max2_int min2_int max_two min_two max_three min_three max_four min_four   
set_option linter.unusedVariables false
set_option linter.unusedSimpArgs false
def laws_toReq.f (a0_0 : Int) (a0_1 : Int) (a0_2 : Int) (a0_3 : Int) (a0_4 : Int) (a0_5 : ByteArray) : Option (Int × Int × Int × Int × Int × ByteArray) := some (a0_0, a0_1, a0_2, a0_3, a0_4, a0_5)
set_option maxHeartbeats 8000000 in
set_option maxRecDepth 100000 in
theorem laws_toReq.calls (a0_0 : Int) (a0_1 : Int) (a0_2 : Int) (a0_3 : Int) (a0_4 : Int) (a0_5 : ByteArray) (r1 : Int) (r2 : Int) (r3 : Int) (r4 : Int) (r5 : Int) (r6 : ByteArray) (w : World) (h : laws_toReq.f a0_0 a0_1 a0_2 a0_3 a0_4 a0_5 = some (r1, r2, r3, r4, r5, r6)) :
    Calls Try.prog 43 #[.agg #[.int .i64 a0_0, .int .i64 a0_1, .int .i64 a0_2, .int .i64 a0_3, .int .i64 a0_4, .string a0_5]] w fun e w' => e = .returned (.agg #[.int .i64 r1, .int .i64 r2, .int .i64 r3, .int .i64 r4, .int .i64 r5, .string r6]) ∧ Below w.heap.size w w' := by
  have hu59 := Try.underlying59
  have hu63 := Try.underlying63
  have HB := Aside0.mk (Below.refl w.heap.size w)
  have H : (some (a0_0, a0_1, a0_2, a0_3, a0_4, a0_5)) = some (r1, r2, r3, r4, r5, r6) := h
  clear h
  simp only [Option.some.injEq, Prod.mk.injEq] at H
  obtain ⟨rfl, rfl, rfl, rfl, rfl, rfl⟩ := H
  go_enter Try.func43, Try.ntmps43
  go_wp2_with (first | ((with_reducible refine gate_dst (N := 1) rfl ?_); refine box_event ?hg (N := 1) ?hd (cs := #[.int .i64 a0_0, .int .i64 a0_1, .int .i64 a0_2, .int .i64 a0_3, .int .i64 a0_4, .string a0_5]) (t := 59) ?hr ?_; (case hd => rfl); (case hg => rfl); (case hr => first | (go_simp; done) | (go_simp; rfl)); intro gb1194 hg w2 hbox hb; have n0_ := Aside0.mk (below_step (by repeat (first | (with_reducible first | exact HB.out | apply below_alloc | apply pw_below_drewN | apply below_drew1) | exact HB.out)) hb); have n1_ := Aside0.mk (hbox); have n2_ := Aside0.mk ((by rw [hg]; exact (below_size (by repeat (first | (with_reducible first | exact HB.out | apply below_alloc | apply pw_below_drewN | apply below_drew1) | exact HB.out))) : w.heap.size ≤ gb1194)); have n3_ := Aside0.mk ((by rw [hg]; exact (below_size (by repeat (first | (with_reducible first | exact HB.out | apply below_alloc | apply pw_below_drewN | apply below_drew1) | exact HB.out))) : w.heap.size ≤ gb1194)); clear HB; have HB := n0_; have BK1194 := n1_; have GW1194 := n2_; have GE1194 := n3_; clear n0_ n1_ n2_ n3_; clear hb hbox hg) | ((with_reducible refine gate_dst (N := 2) rfl ?_); refine box_event ?hg (N := 2) ?hd (cs := #[.int .i64 0, .int .i64 0, .int .i64 0, .int .i64 0, .int .i64 0, .string (⟨#[]⟩ : ByteArray)]) (t := 63) ?hr ?_; (case hd => rfl); (case hg => rfl); (case hr => first | (go_simp; done) | (go_simp; rfl)); intro gb1195 hg w3 hbox hb; have n0_ := Aside0.mk (blk_below (g := gb1194) (o := .cells #[.int .i64 a0_0, .int .i64 a0_1, .int .i64 a0_2, .int .i64 a0_3, .int .i64 a0_4, .string a0_5] 59 (0, 0)) (by (with_reducible repeat (first | refine blk_drewN ?_ _ | refine blk_drew ?_ | refine blk_alloc ?_ _)); exact BK1194.out) hb); have n1_ := Aside0.mk (below_step (by repeat (first | (with_reducible first | exact HB.out | apply below_alloc | apply pw_below_drewN | apply below_drew1 | refine below_set ?_ GE1194.out) | exact HB.out)) hb); have n2_ := Aside0.mk (hbox); have n3_ := Aside0.mk ((by rw [hg]; exact (below_size (by repeat (first | (with_reducible first | exact HB.out | apply below_alloc | apply pw_below_drewN | apply below_drew1 | refine below_set ?_ GE1194.out) | exact HB.out))) : w.heap.size ≤ gb1195)); have n4_ := Aside0.mk ((by rw [hg]; exact (below_size (by repeat (first | (with_reducible first | exact HB.out | apply below_alloc | apply pw_below_drewN | apply below_drew1 | refine below_set ?_ GE1194.out) | exact HB.out))) : w.heap.size ≤ gb1195)); have n5_ := Aside0.mk ((by rw [hg]; exact Nat.ne_of_lt (blk_lt (g := gb1194) (o := .cells #[.int .i64 a0_0, .int .i64 a0_1, .int .i64 a0_2, .int .i64 a0_3, .int .i64 a0_4, .string a0_5] 59 (0, 0)) (by (with_reducible repeat (first | refine blk_drewN ?_ _ | refine blk_drew ?_ | refine blk_alloc ?_ _)); exact BK1194.out)) : gb1194 ≠ gb1195)); have n6_ := Aside0.mk ((by rw [hg]; exact Nat.ne_of_gt (blk_lt (g := gb1194) (o := .cells #[.int .i64 a0_0, .int .i64 a0_1, .int .i64 a0_2, .int .i64 a0_3, .int .i64 a0_4, .string a0_5] 59 (0, 0)) (by (with_reducible repeat (first | refine blk_drewN ?_ _ | refine blk_drew ?_ | refine blk_alloc ?_ _)); exact BK1194.out)) : gb1195 ≠ gb1194)); clear BK1194; clear HB; have BK1194 := n0_; have HB := n1_; have BK1195 := n2_; have GW1195 := n3_; have GE1195 := n4_; have NB1194_1195 := n5_; have NB1195_1194 := n6_; clear n0_ n1_ n2_ n3_ n4_ n5_ n6_; clear hb hbox hg) | ((with_reducible refine gate_dst (N := 3) rfl ?_); refine box_event ?hg (N := 3) ?hd (cs := #[.int .i64 0, .int .i64 0, .int .i64 0, .int .i64 0, .int .i64 0, .string (⟨#[]⟩ : ByteArray)]) (t := 63) ?hr ?_; (case hd => rfl); (case hg => rfl); (case hr => first | (go_simp; done) | (go_simp; rfl)); intro gb1196 hg w4 hbox hb; have n0_ := Aside0.mk (blk_below (g := gb1194) (o := .cells #[.int .i64 a0_0, .int .i64 a0_1, .int .i64 a0_2, .int .i64 a0_3, .int .i64 a0_4, .string a0_5] 59 (0, 0)) (by (with_reducible repeat (first | refine blk_drewN ?_ _ | refine blk_drew ?_ | refine blk_alloc ?_ _)); exact BK1194.out) hb); have n1_ := Aside0.mk (blk_below (g := gb1195) (o := .cells #[.int .i64 0, .int .i64 0, .int .i64 0, .int .i64 0, .int .i64 0, .string (⟨#[]⟩ : ByteArray)] 63 (0, 0)) (by (with_reducible repeat (first | refine blk_drewN ?_ _ | refine blk_drew ?_ | refine blk_alloc ?_ _)); exact BK1195.out) hb); have n2_ := Aside0.mk (below_step (by repeat (first | (with_reducible first | exact HB.out | apply below_alloc | apply pw_below_drewN | apply below_drew1 | refine below_set ?_ GE1194.out | refine below_set ?_ GE1195.out) | exact HB.out)) hb); have n3_ := Aside0.mk (hbox); have n4_ := Aside0.mk ((by rw [hg]; exact (below_size (by repeat (first | (with_reducible first | exact HB.out | apply below_alloc | apply pw_below_drewN | apply below_drew1 | refine below_set ?_ GE1194.out | refine below_set ?_ GE1195.out) | exact HB.out))) : w.heap.size ≤ gb1196)); have n5_ := Aside0.mk ((by rw [hg]; exact (below_size (by repeat (first | (with_reducible first | exact HB.out | apply below_alloc | apply pw_below_drewN | apply below_drew1 | refine below_set ?_ GE1194.out | refine below_set ?_ GE1195.out) | exact HB.out))) : w.heap.size ≤ gb1196)); have n6_ := Aside0.mk ((by rw [hg]; exact Nat.ne_of_lt (blk_lt (g := gb1194) (o := .cells #[.int .i64 a0_0, .int .i64 a0_1, .int .i64 a0_2, .int .i64 a0_3, .int .i64 a0_4, .string a0_5] 59 (0, 0)) (by (with_reducible repeat (first | refine blk_drewN ?_ _ | refine blk_drew ?_ | refine blk_alloc ?_ _)); exact BK1194.out)) : gb1194 ≠ gb1196)); have n7_ := Aside0.mk ((by rw [hg]; exact Nat.ne_of_gt (blk_lt (g := gb1194) (o := .cells #[.int .i64 a0_0, .int .i64 a0_1, .int .i64 a0_2, .int .i64 a0_3, .int .i64 a0_4, .string a0_5] 59 (0, 0)) (by (with_reducible repeat (first | refine blk_drewN ?_ _ | refine blk_drew ?_ | refine blk_alloc ?_ _)); exact BK1194.out)) : gb1196 ≠ gb1194)); have n8_ := Aside0.mk ((by rw [hg]; exact Nat.ne_of_lt (blk_lt (g := gb1195) (o := .cells #[.int .i64 0, .int .i64 0, .int .i64 0, .int .i64 0, .int .i64 0, .string (⟨#[]⟩ : ByteArray)] 63 (0, 0)) (by (with_reducible repeat (first | refine blk_drewN ?_ _ | refine blk_drew ?_ | refine blk_alloc ?_ _)); exact BK1195.out)) : gb1195 ≠ gb1196)); have n9_ := Aside0.mk ((by rw [hg]; exact Nat.ne_of_gt (blk_lt (g := gb1195) (o := .cells #[.int .i64 0, .int .i64 0, .int .i64 0, .int .i64 0, .int .i64 0, .string (⟨#[]⟩ : ByteArray)] 63 (0, 0)) (by (with_reducible repeat (first | refine blk_drewN ?_ _ | refine blk_drew ?_ | refine blk_alloc ?_ _)); exact BK1195.out)) : gb1196 ≠ gb1195)); clear BK1194; clear BK1195; clear HB; have BK1194 := n0_; have BK1195 := n1_; have HB := n2_; have BK1196 := n3_; have GW1196 := n4_; have GE1196 := n5_; have NB1194_1196 := n6_; have NB1196_1194 := n7_; have NB1195_1196 := n8_; have NB1196_1195 := n9_; clear n0_ n1_ n2_ n3_ n4_ n5_ n6_ n7_ n8_ n9_; clear hb hbox hg; have hnb5 := NB1194_1195.out; have hnc5 := NB1195_1194.out; have hnb6 := NB1194_1196.out; have hnc6 := NB1196_1194.out; have hcz7_0 : w4.cell? ⟨gb1194, 0, none⟩ = some (.int .i64 a0_0) := (blk_cell BK1194.out 0).trans rfl; have hcz7_1 : w4.cell? ⟨gb1194, 1, none⟩ = some (.int .i64 a0_1) := (blk_cell BK1194.out 1).trans rfl; have hcz7_2 : w4.cell? ⟨gb1194, 2, none⟩ = some (.int .i64 a0_2) := (blk_cell BK1194.out 2).trans rfl; have hcz7_3 : w4.cell? ⟨gb1194, 3, none⟩ = some (.int .i64 a0_3) := (blk_cell BK1194.out 3).trans rfl; have hcz7_4 : w4.cell? ⟨gb1194, 4, none⟩ = some (.int .i64 a0_4) := (blk_cell BK1194.out 4).trans rfl; have hcz7_5 : w4.cell? ⟨gb1194, 5, none⟩ = some (.string a0_5) := (blk_cell BK1194.out 5).trans rfl; have hfz7_0 := blk_frozen BK1194.out 0; have hfz7_1 := blk_frozen BK1194.out 1; have hfz7_2 := blk_frozen BK1194.out 2; have hfz7_3 := blk_frozen BK1194.out 3; have hfz7_4 := blk_frozen BK1194.out 4; have hfz7_5 := blk_frozen BK1194.out 5; have hnb8 := NB1196_1195.out; have hnc8 := NB1195_1196.out; have hcz9_0 : w4.cell? ⟨gb1196, 0, none⟩ = some (.int .i64 0) := (blk_cell BK1196.out 0).trans rfl; have hcz9_1 : w4.cell? ⟨gb1196, 1, none⟩ = some (.int .i64 0) := (blk_cell BK1196.out 1).trans rfl; have hcz9_2 : w4.cell? ⟨gb1196, 2, none⟩ = some (.int .i64 0) := (blk_cell BK1196.out 2).trans rfl; have hcz9_3 : w4.cell? ⟨gb1196, 3, none⟩ = some (.int .i64 0) := (blk_cell BK1196.out 3).trans rfl; have hcz9_4 : w4.cell? ⟨gb1196, 4, none⟩ = some (.int .i64 0) := (blk_cell BK1196.out 4).trans rfl; have hcz9_5 : w4.cell? ⟨gb1196, 5, none⟩ = some (.string (⟨#[]⟩ : ByteArray)) := (blk_cell BK1196.out 5).trans rfl; have hfz9_0 := blk_frozen BK1196.out 0; have hfz9_1 := blk_frozen BK1196.out 1; have hfz9_2 := blk_frozen BK1196.out 2; have hfz9_3 := blk_frozen BK1196.out 3; have hfz9_4 := blk_frozen BK1196.out 4; have hfz9_5 := blk_frozen BK1196.out 5; have hcz10_0 : w4.cell? ⟨gb1195, 0, none⟩ = some (.int .i64 0) := (blk_cell BK1195.out 0).trans rfl; have hcz10_1 : w4.cell? ⟨gb1195, 1, none⟩ = some (.int .i64 0) := (blk_cell BK1195.out 1).trans rfl; have hcz10_2 : w4.cell? ⟨gb1195, 2, none⟩ = some (.int .i64 0) := (blk_cell BK1195.out 2).trans rfl; have hcz10_3 : w4.cell? ⟨gb1195, 3, none⟩ = some (.int .i64 0) := (blk_cell BK1195.out 3).trans rfl; have hcz10_4 : w4.cell? ⟨gb1195, 4, none⟩ = some (.int .i64 0) := (blk_cell BK1195.out 4).trans rfl; have hcz10_5 : w4.cell? ⟨gb1195, 5, none⟩ = some (.string (⟨#[]⟩ : ByteArray)) := (blk_cell BK1195.out 5).trans rfl; have hfz10_0 := blk_frozen BK1195.out 0; have hfz10_1 := blk_frozen BK1195.out 1; have hfz10_2 := blk_frozen BK1195.out 2; have hfz10_3 := blk_frozen BK1195.out 3; have hfz10_4 := blk_frozen BK1195.out 4; have hfz10_5 := blk_frozen BK1195.out 5))
  refine bodyPost_ret (results_cell_row rfl _ _ gb1195 63 #[.int .i64 a0_0, .int .i64 a0_1, .int .i64 a0_2, .int .i64 a0_3, .int .i64 a0_4, .string a0_5] (0, 0) _ rfl (by (with_reducible repeat (first | refine blk_drewN ?_ _ | refine blk_drew ?_ | refine blk_alloc ?_ _)); refine blk_put (cs := #[.int .i64 a0_0, .int .i64 a0_1, .int .i64 a0_2, .int .i64 a0_3, .int .i64 a0_4, .string (⟨#[]⟩ : ByteArray)]) ?_ 5 _ rfl; (with_reducible repeat (first | refine blk_drewN ?_ _ | refine blk_drew ?_ | refine blk_alloc ?_ _)); refine blk_put (cs := #[.int .i64 a0_0, .int .i64 a0_1, .int .i64 a0_2, .int .i64 a0_3, .int .i64 0, .string (⟨#[]⟩ : ByteArray)]) ?_ 4 _ rfl; (with_reducible repeat (first | refine blk_drewN ?_ _ | refine blk_drew ?_ | refine blk_alloc ?_ _)); refine blk_put (cs := #[.int .i64 a0_0, .int .i64 a0_1, .int .i64 a0_2, .int .i64 0, .int .i64 0, .string (⟨#[]⟩ : ByteArray)]) ?_ 3 _ rfl; (with_reducible repeat (first | refine blk_drewN ?_ _ | refine blk_drew ?_ | refine blk_alloc ?_ _)); refine blk_put (cs := #[.int .i64 a0_0, .int .i64 a0_1, .int .i64 0, .int .i64 0, .int .i64 0, .string (⟨#[]⟩ : ByteArray)]) ?_ 2 _ rfl; (with_reducible repeat (first | refine blk_drewN ?_ _ | refine blk_drew ?_ | refine blk_alloc ?_ _)); refine blk_put (cs := #[.int .i64 a0_0, .int .i64 0, .int .i64 0, .int .i64 0, .int .i64 0, .string (⟨#[]⟩ : ByteArray)]) ?_ 1 _ rfl; (with_reducible repeat (first | refine blk_drewN ?_ _ | refine blk_drew ?_ | refine blk_alloc ?_ _)); refine blk_put (cs := #[.int .i64 0, .int .i64 0, .int .i64 0, .int .i64 0, .int .i64 0, .string (⟨#[]⟩ : ByteArray)]) ?_ 0 _ rfl; (with_reducible repeat (first | refine blk_drewN ?_ _ | refine blk_drew ?_ | refine blk_alloc ?_ _)); refine blk_far ?_ NB1195_1196.out _; (with_reducible repeat (first | refine blk_drewN ?_ _ | refine blk_drew ?_ | refine blk_alloc ?_ _)); refine blk_far ?_ NB1195_1196.out _; (with_reducible repeat (first | refine blk_drewN ?_ _ | refine blk_drew ?_ | refine blk_alloc ?_ _)); refine blk_far ?_ NB1195_1196.out _; (with_reducible repeat (first | refine blk_drewN ?_ _ | refine blk_drew ?_ | refine blk_alloc ?_ _)); refine blk_far ?_ NB1195_1196.out _; (with_reducible repeat (first | refine blk_drewN ?_ _ | refine blk_drew ?_ | refine blk_alloc ?_ _)); refine blk_far ?_ NB1195_1196.out _; (with_reducible repeat (first | refine blk_drewN ?_ _ | refine blk_drew ?_ | refine blk_alloc ?_ _)); refine blk_far ?_ NB1195_1196.out _; (with_reducible repeat (first | refine blk_drewN ?_ _ | refine blk_drew ?_ | refine blk_alloc ?_ _)); exact BK1195.out) Try.underlying63 rfl (by kernel_rfl)) rfl ?_
  exact ⟨by first | rfl | (simp [errW_none, errW_some] <;> rfl) | (simp [*, errW_none, errW_some] <;> rfl), by repeat (first | (with_reducible first | exact HB.out | apply below_alloc | apply pw_below_drewN | apply below_drew1 | refine below_set ?_ GE1194.out | refine below_set ?_ GE1195.out | refine below_set ?_ GE1196.out) | exact HB.out)⟩
end Go.Proofs.Ytolmblfffnnabaa.P
namespace Go.Proofs.Ytolmblfffnnabaa.P
open Go.RowKit Go.Proofs.YtolmblfffnnabaaW.PrintWords Go.Proofs.YtolmblfffnnabaaW.PrintLast Go.Proofs.YtolmblfffnnabaaW.PrintMore
section
variable {w : World} {v : Value} {s t : St} {c : Int}
theorem spec_StoreDo_c {who ep num obj at_ : Int} {data : ByteArray} (hv : StC w v s) (hz : Sized s) (hs : Small s) (hd : data.size ≤ 9223372036854775807) (ht : storeDo s ⟨who, ep, num, obj, at_, data⟩ = (t, c)) :
    Calls Try.prog 42 #[v, .agg #[.int .i64 who, .int .i64 ep, .int .i64 num, .int .i64 obj, .int .i64 at_, .string data]] w fun e w' => ∃ u, e = .returned (.tuple #[u, .int .i64 c]) ∧ StR w' w.heap.size w'.heap.size u t ∧ Below w.heap.size w w' := by
  unfold storeDo at ht
  split at ht
  case isFalse hk =>
    cases ht
    exact spec_StoreDo_p0 hv hz hs who ep num obj at_ data hd (by simpa using hk)
  case isTrue hk => exact spec_StoreDo_p1 hv hz hs who ep num obj at_ data hd hk ht
theorem szReq_c (who ep num obj at_ : Int) {data : ByteArray} {m : Int} (hd : data.size ≤ 9223372036854775807) (h0 : 0 ≤ m) (hm : m ≤ 1048576) :
    Calls Try.prog 41 #[.agg #[.int .i64 who, .int .i64 ep, .int .i64 num, .int .i64 obj, .int .i64 at_, .string data], .int .i64 m] w fun e w' => ∃ r : Int, e = .returned (.int .i64 r) ∧ r ≤ m ∧ -1 ≤ r ∧ Below w.heap.size w w' := by
  have hw : wrap64 (m - (data.size : Int)) = m - data.size := w64 (by omega) (by omega)
  by_cases h : m - (data.size : Int) < 0
  · exact (laws_szReq.calls who ep num obj at_ data m (-1) w (by unfold laws_szReq.f; rw [hw, if_pos h])).mono fun e w' ⟨a, b⟩ => ⟨-1, a, by omega, by omega, b⟩
  · exact (laws_szReq.calls who ep num obj at_ data m (m - data.size) w (by unfold laws_szReq.f; rw [hw, if_neg h])).mono fun e w' ⟨a, b⟩ => ⟨_, a, by omega, by omega, b⟩
theorem toReq_c (who ep num obj at_ : Int) (data : ByteArray) :
    Calls Try.prog 43 #[.agg #[.int .i64 who, .int .i64 ep, .int .i64 num, .int .i64 obj, .int .i64 at_, .string data]] w fun e w' => e = .returned (.agg #[.int .i64 who, .int .i64 ep, .int .i64 num, .int .i64 obj, .int .i64 at_, .string data]) ∧ Below w.heap.size w w' :=
  laws_toReq.calls who ep num obj at_ data _ _ _ _ _ _ w rfl
end
end Go.Proofs.Ytolmblfffnnabaa.P
namespace Go.Proofs.Ytolmblfffnnabaa.P
open Go.RowKit Go.Proofs.YtolmblfffnnabaaW.PrintWords Go.Proofs.YtolmblfffnnabaaW.PrintLast Go.Proofs.YtolmblfffnnabaaW.PrintMore
attribute [local go_sem] max2_int min2_int max_two min_two max_three min_three max_four min_four   
set_option linter.unusedVariables false
set_option linter.unusedSimpArgs false
def laws_markIntS.l0 : Nat → List Int → Int → Int → Option (Int × List Int)
  | 0, _, _, _ => none
  | k + 1, x0, x1, x5 => if x5 < (x0.length : Int) then (if 0 ≤ x5 then (laws_markIntS.l0 k (x0.set (x5 : Int).toNat x1) (wrap64 (x1 + 1)) (wrap64 (x5 + 1))) else (none)) else (some (x1, x0))
def laws_markIntS.f (k : Nat) (l0 : List Int) (a1 : Int) : Option (Int × List Int) := laws_markIntS.l0 k l0 a1 0
set_option maxHeartbeats 8000000 in
set_option maxRecDepth 100000 in
theorem laws_markIntS.calls (k : Nat) (P0_ : Nat → Prop) (u9000_ : Value) (l0 : List Int) (a1 : Int) (r1 : Int) (r2 : List Int) (w0 w : World) (hB : Below w0.heap.size w0 w) (ho0 : Kd.R (Kd.int .i64) 3 w w0.heap.size P0_ u9000_ l0) (h : laws_markIntS.f k l0 a1 = some (r1, r2)) :
    Calls Try.prog 39 #[u9000_, .int .i64 a1] w fun e w' => e = .returned (.int .i64 r1) ∧ Kd.R (Kd.int .i64) 3 w' w0.heap.size (fun k_ => (P0_ k_ ∨ w.heap.size ≤ k_)) u9000_ r2 ∧ Below w0.heap.size w0 w' ∧ Kept w w' (fun k_ => P0_ k_) := by
  have HO0 := Aside0.mk (show Kd.R (Kd.int .i64) 3 w w0.heap.size (fun k_ => (P0_ k_ ∨ w.heap.size ≤ k_)) u9000_ l0 from Kd.R_mono ho0 (fun k_ hk => (.inl hk)))
  have HK := Aside0.mk (Kept.refl w (fun k_ => P0_ k_))
  have HW0 := Aside0.mk hB.size
  have HB := Aside0.mk hB
  clear hB
  have H : (laws_markIntS.l0 k l0 a1 0) = some (r1, r2) := h
  clear h
  have H' := Aside0.mk H
  clear H
  go_enter Try.func39, Try.ntmps39
  go_wp2
  go_loopg [1, 5] k (fun kq v1 v5 w' => ∃ (x0_1 : List Int) (x1_1 : Int) (x5_1 : Int), v1 = .int .i64 x1_1 ∧ v5 = .int .i64 x5_1 ∧ Aside0 (laws_markIntS.l0 kq x0_1 x1_1 x5_1 = some (r1, r2)) ∧ Aside0 (kq ≤ k) ∧ Aside0 (Kd.R (Kd.int .i64) 3 w' w0.heap.size (fun k_ => (P0_ k_ ∨ w.heap.size ≤ k_)) u9000_ x0_1) ∧ Aside0 (Kept w w' (fun k_ => P0_ k_)) ∧ Aside0 (Below w0.heap.size w0 w'))
  case atStart => exact ⟨(l0), (a1), (0), (by first | rfl | (simp; done) | (simp [*]; done)), (by first | rfl | (simp; done) | (simp [*]; done)), H', ⟨Nat.le_refl _⟩, ⟨by (with_reducible repeat (first | apply Kd.R_alloc | apply Kd.R_drewN | apply Kd.R_drew)); exact HO0.out⟩, ⟨by repeat (first | (with_reducible first | exact HK.out | apply Kept.alloc | apply Kept.drewN | apply Kept.drew) | exact HK.out)⟩, ⟨by repeat (first | (with_reducible first | exact HB.out | apply below_alloc | apply pw_below_drewN | apply below_drew1) | exact HB.out)⟩⟩
  case round =>
    clear H'
    try clear p2
    obtain ⟨x0_1, x1_1, x5_1, rfl, rfl, HA, HK1, HO_0, HK, HB⟩ := hrel
    cases gk with
    | zero => exact absurd HA.out (by simp [laws_markIntS.l0])
    | succ k1 =>
      have H := HA.out
      clear HA
      simp only [laws_markIntS.l0] at H
      by_cases c3 : x5_1 < (x0_1.length : Int)
      · rw [if_pos c3] at H
        have c3b0 : decide (x5_1 < (x0_1.length : Int)) = true := decide_eq_true c3
        clear c3
        by_cases c4 : 0 ≤ x5_1
        · rw [if_pos c4] at H
          have c4b0 : decide (0 ≤ x5_1) = true := decide_eq_true c4
          clear c4
          obtain ⟨y144, hy144⟩ : ∃ y_ : List Int, y_ = (x0_1.set (x5_1 : Int).toNat x1_1) := ⟨_, rfl⟩
          replace H : (laws_markIntS.l0 k1 y144 (wrap64 (x1_1 + 1)) (wrap64 (x5_1 + 1))) = some (r1, r2) := by first | (rw [hy144]; with_reducible exact H) | (have H2_ := (Option.bind_some _ _).symm.trans H; rw [hy144]; with_reducible exact H2_) | (have H2_ := (Option.bind_some _ _).symm.trans H; with_reducible exact H2_) | with_reducible exact H | (rw [hy144]; exact H) | exact H
          have Ny144 := Aside0.mk hy144
          clear hy144
          have H' := Aside0.mk H
          clear H
          obtain ⟨Ao6, co6, eo6⟩ := Kd.R_slice HO_0.out
          subst eo6
          have p5 : 0 ≤ (x5_1 : Int) := of_decide_eq_true (by first | (with_reducible assumption) | assumption)
          have q5 : (x5_1 : Int) < ((x0_1.length : Int) : Int) := of_decide_eq_true (by first | (with_reducible assumption) | assumption)
          obtain ⟨go5, co5, eo5, gb5, gl5, cl5, HG5⟩ := Kd.R_form HO_0.out (by omega)
          (first | cases eo5 | (injection eo5 with ea_ en_ ec_; (first | subst ea_ | (injection ea_ with ea_; subst ea_)); subst ec_; clear en_))
          have GB5 := Aside0.mk gb5
          have GG5 := Aside0.mk HG5
          clear gb5 gl5 HG5
          have HMgo5 := Aside0.mk (show (P0_ go5 ∨ w.heap.size ≤ go5) from (HO_0.out.1 _ rfl))
          obtain ⟨hx5_0, hf5_0⟩ := Kd.R_celln 0 HO_0.out (x5_1 : Int) p5 q5
          replace p5 := eq_true p5
          replace q5 := eq_true q5
          have HP7 := Kd.R_putg HO_0.out (x5_1 : Int) x1_1
          go_wp2_with (first | ((with_reducible refine gate_store (t := 3) (p := 15) rfl ?_); refine store_event (t := 3) (p := 15) (v := ?vo_w8) (w1 := (wr.setCell ⟨go5, (x5_1 : Int).toNat, none⟩ (.int .i64 x1_1))) ?hg ?ho ?hn ?hr ?_; (case ho => rfl); (case hg => rfl); (case hn => rfl); (case hr => first | (go_simp; done) | (go_simp; rfl)); intro w8 hw; have hg : wr.grownBy w8 (some go5) := (by rw [hw]; exact HP7.2); have hp_ : Kd.R (Kd.int .i64) 3 w8 w0.heap.size (fun k_ => (P0_ k_ ∨ w.heap.size ≤ k_)) (.slice (some ⟨go5, 0, none⟩) x0_1.length co6) y144 := (by rw [hw, Ny144.out]; exact HP7.1); clear HP7; have n0_ := Aside0.mk (hp_); have n1_ := Aside0.mk ((by rw [hw]; exact below_set (HB.out) GB5.out : Below w0.heap.size w0 w8)); have n2_ := Aside0.mk (Kept.of_grown (S := (fun k_ => P0_ k_)) hg (by repeat (first | (with_reducible first | exact HK.out | apply Kept.alloc | apply Kept.drewN | apply Kept.drew) | exact HK.out)) (fun k_ e_ => (HO_0.out.1 k_ e_))); clear HO_0; clear HB; clear HK; have HO_0 := n0_; have HB := n1_; have HK := n2_; clear n0_ n1_ n2_; clear hg hw hp_))
          go_roundg k1
          case measure => have := HK1.out; omega
          case rel => exact ⟨(y144), (wrap64 (x1_1 + 1)), (wrap64 (x5_1 + 1)), (by first | rfl | (simp; done) | (simp [*]; done)), (by first | rfl | (simp; done) | (simp [*]; done)), H', ⟨by have := HK1.out; omega⟩, ⟨by (with_reducible repeat (first | apply Kd.R_alloc | apply Kd.R_drewN | apply Kd.R_drew)); exact HO_0.out⟩, ⟨by repeat (first | (with_reducible first | exact HK.out | apply Kept.alloc | apply Kept.drewN | apply Kept.drew) | exact HK.out)⟩, ⟨by repeat (first | (with_reducible first | exact HB.out | apply below_alloc | apply pw_below_drewN | apply below_drew1) | exact HB.out)⟩⟩
        · rw [if_neg c4] at H
          exact absurd H (by simp)
      · rw [if_neg c3] at H
        have c3b0 : decide (x5_1 < (x0_1.length : Int)) = false := decide_eq_false c3
        clear c3
        simp only [Option.some.injEq, Prod.mk.injEq] at H
        obtain ⟨rfl, rfl⟩ := H
        obtain ⟨Ao9, co9, eo9⟩ := Kd.R_slice HO_0.out
        subst eo9
        go_wp2
        go_ret
        exact ⟨by first | rfl | (simp [errW_none, errW_some] <;> rfl) | (simp [*, errW_none, errW_some] <;> rfl), by (with_reducible repeat (first | apply Kd.R_alloc | apply Kd.R_drewN | apply Kd.R_drew)); exact HO_0.out, by repeat (first | (with_reducible first | exact HB.out | apply below_alloc | apply pw_below_drewN | apply below_drew1) | exact HB.out), by repeat (first | (with_reducible first | exact HK.out | apply Kept.alloc | apply Kept.drewN | apply Kept.drew) | exact HK.out)⟩
end Go.Proofs.Ytolmblfffnnabaa.P
namespace Go.Proofs.Ytolmblfffnnabaa.P
open Go.RowKit Go.Proofs.YtolmblfffnnabaaW.PrintWords Go.Proofs.YtolmblfffnnabaaW.PrintLast Go.Proofs.YtolmblfffnnabaaW.PrintMore
attribute [local go_sem] max2_int min2_int max_two min_two max_three min_three max_four min_four   
set_option linter.unusedVariables false
set_option linter.unusedSimpArgs false
def laws_heldIntS.l0 : Nat → List Int → Int → Int → Option (Int)
  | 0, _, _, _ => none
  | k + 1, x0, x1, x5 => if x5 < (x0.length : Int) then (if 0 ≤ x5 then (if (rd x0 x5) = x1 then (laws_heldIntS.l0 k x0 (wrap64 (x1 + 1)) (wrap64 (x5 + 1))) else (some (-1))) else (none)) else (some x1)
def laws_heldIntS.f (k : Nat) (l0 : List Int) (a1 : Int) : Option (Int) := laws_heldIntS.l0 k l0 a1 0
set_option maxHeartbeats 8000000 in
set_option maxRecDepth 100000 in
theorem laws_heldIntS.calls (k : Nat) (A0 : Option Addr) (c0 : Nat) (l0 : List Int) (a1 : Int) (r : Int) (w : World) (hr0 : Kd.C (Kd.int .i64) w A0 l0.length l0) (hc0 : l0.length ≤ c0) (h : laws_heldIntS.f k l0 a1 = some r) :
    Calls Try.prog 40 #[.slice A0 l0.length c0, .int .i64 a1] w fun e w' => e = .returned (.int .i64 r) ∧ Drawn0 w w' := by
  have HR0 := Aside0.mk hr0
  have HC0 := Aside0.mk hc0
  clear hr0 hc0
  have H : (laws_heldIntS.l0 k l0 a1 0) = some r := h
  clear h
  have H' := Aside0.mk H
  clear H
  go_enter Try.func40, Try.ntmps40
  go_wp2
  go_loopg [1, 5] k (fun kq v1 v5 w' => ∃ (x1_1 : Int) (x5_1 : Int), v1 = .int .i64 x1_1 ∧ v5 = .int .i64 x5_1 ∧ Aside0 (laws_heldIntS.l0 kq l0 x1_1 x5_1 = some r) ∧ Aside0 (kq ≤ k) ∧ Drawn0 w w')
  case atStart => exact ⟨(a1), (0), (by first | rfl | (simp; done) | (simp [*]; done)), (by first | rfl | (simp; done) | (simp [*]; done)), H', ⟨Nat.le_refl _⟩, by repeat (first | exact Drawn0.refl _ | apply Drawn0.step)⟩
  case round =>
    clear H'
    try clear p2
    obtain ⟨x1_1, x5_1, rfl, rfl, HA, HK1, ⟨m1, rfl⟩⟩ := hrel
    cases gk with
    | zero => exact absurd HA.out (by simp [laws_heldIntS.l0])
    | succ k1 =>
      have H := HA.out
      clear HA
      simp only [laws_heldIntS.l0] at H
      by_cases c3 : x5_1 < (l0.length : Int)
      · rw [if_pos c3] at H
        have c3b0 : decide (x5_1 < (l0.length : Int)) = true := decide_eq_true c3
        clear c3
        by_cases c4 : 0 ≤ x5_1
        · rw [if_pos c4] at H
          have c4b0 : decide (0 ≤ x5_1) = true := decide_eq_true c4
          clear c4
          by_cases c5 : (rd l0 x5_1) = x1_1
          · rw [if_pos c5] at H
            have c5b0 : ((rd l0 x5_1) == x1_1) = true := beq_iff_eq.mpr c5
            have c5b1 : ((rd l0 x5_1) != x1_1) = false := bne_eq_false_iff_eq.mpr c5
            clear c5
            have H' := Aside0.mk H
            clear H
            have p161 : 0 ≤ (x5_1 : Int) := of_decide_eq_true (by first | (with_reducible assumption) | assumption)
            have q161 : x5_1 < (l0.length : Int) := of_decide_eq_true (by first | (with_reducible assumption) | assumption)
            obtain ⟨ad161, e161, hx161_0⟩ := Kd.at_int HR0.out x5_1 p161 q161
            cases e161
            replace p161 := eq_true p161
            replace q161 := eq_true q161
            go_wp2
            go_roundg k1
            case measure => have := HK1.out; omega
            case rel => exact ⟨(wrap64 (x1_1 + 1)), (wrap64 (x5_1 + 1)), (by first | rfl | (simp; done) | (simp [*]; done)), (by first | rfl | (simp; done) | (simp [*]; done)), H', ⟨by have := HK1.out; omega⟩, by repeat (first | exact Drawn0.refl _ | apply Drawn0.step)⟩
          · rw [if_neg c5] at H
            have c5b0 : ((rd l0 x5_1) == x1_1) = false := beq_eq_false_iff_ne.mpr c5
            have c5b1 : ((rd l0 x5_1) != x1_1) = true := bne_iff_ne.mpr c5
            obtain rfl := Option.some.inj H
            have p161 : 0 ≤ (x5_1 : Int) := of_decide_eq_true (by first | (with_reducible assumption) | assumption)
            have q161 : x5_1 < (l0.length : Int) := of_decide_eq_true (by first | (with_reducible assumption) | assumption)
            obtain ⟨ad161, e161, hx161_0⟩ := Kd.at_int HR0.out x5_1 p161 q161
            cases e161
            replace p161 := eq_true p161
            replace q161 := eq_true q161
            go_wp2
            go_ret
            exact ⟨by first | rfl | (simp; done) | (simp [*]; done), by repeat (first | exact Drawn0.refl _ | apply Drawn0.step)⟩
        · rw [if_neg c4] at H
          exact absurd H (by simp)
      · rw [if_neg c3] at H
        have c3b0 : decide (x5_1 < (l0.length : Int)) = false := decide_eq_false c3
        clear c3
        obtain rfl := Option.some.inj H
        go_wp2
        go_ret
        exact ⟨by first | rfl | (simp; done) | (simp [*]; done), by repeat (first | exact Drawn0.refl _ | apply Drawn0.step)⟩
end Go.Proofs.Ytolmblfffnnabaa.P
namespace Go.Proofs.Ytolmblfffnnabaa.P
open Go.RowKit Go.Proofs.YtolmblfffnnabaaW.PrintWords Go.Proofs.YtolmblfffnnabaaW.PrintLast Go.Proofs.YtolmblfffnnabaaW.PrintMore
attribute [local go_sem] max2_int min2_int max_two min_two max_three min_three max_four min_four   
set_option linter.unusedVariables false
set_option linter.unusedSimpArgs false
def laws_markText.l0 : Nat → Int → ByteArray → Option (ByteArray)
  | 0, _, _ => none
  | k + 1, x0, x3 => if x0 > 0 then ((some (([(wrap64 (48 + (Int.tmod x0 10))) % 256] : List Int) : List Int)).bind fun y145 => (if (strOfNums y145).size + x3.size ≤ 9223372036854775807 then (laws_markText.l0 k (wrap64 (Int.tdiv x0 10)) ((strOfNums y145) ++ x3)) else (none))) else (if 1 + x3.size ≤ 9223372036854775807 then (some ((⟨#[109]⟩ : ByteArray) ++ x3)) else (none))
def laws_markText.f (k : Nat) (a0 : Int) : Option (ByteArray) := if a0 ≤ 0 then (some (⟨#[109, 48]⟩ : ByteArray)) else (laws_markText.l0 k a0 (⟨#[]⟩ : ByteArray))
set_option maxHeartbeats 8000000 in
set_option maxRecDepth 100000 in
theorem laws_markText.calls (k : Nat) (a0 : Int) (r : ByteArray) (w : World) (h : laws_markText.f k a0 = some r) :
    Calls Try.prog 71 #[.int .i64 a0] w fun e w' => e = .returned (.string r) ∧ Below w.heap.size w w' := by
  have HB := Aside0.mk (Below.refl w.heap.size w)
  have H : (if a0 ≤ 0 then (some (⟨#[109, 48]⟩ : ByteArray)) else (laws_markText.l0 k a0 (⟨#[]⟩ : ByteArray))) = some r := h
  clear h
  by_cases c2 : a0 ≤ 0
  · rw [if_pos c2] at H
    have c2b0 : decide (a0 ≤ 0) = true := decide_eq_true c2
    clear c2
    obtain rfl := Option.some.inj H
    go_enter Try.func71, Try.ntmps71
    go_wp2
    go_ret
    exact ⟨by first | rfl | (simp [errW_none, errW_some] <;> rfl) | (simp [*, errW_none, errW_some] <;> rfl), by repeat (first | (with_reducible first | exact HB.out | apply below_alloc | apply pw_below_drewN | apply below_drew1) | exact HB.out)⟩
  · rw [if_neg c2] at H
    have c2b0 : decide (a0 ≤ 0) = false := decide_eq_false c2
    clear c2
    have H' := Aside0.mk H
    clear H
    go_enter Try.func71, Try.ntmps71
    go_wp2
    go_loopg [0, 3] k (fun kq v0 v3 w' => ∃ (x0_1 : Int) (x3_1 : ByteArray), v0 = .int .i64 x0_1 ∧ v3 = .string x3_1 ∧ Aside0 (laws_markText.l0 kq x0_1 x3_1 = some r) ∧ Aside0 (kq ≤ k) ∧ Aside0 (Below w.heap.size w w'))
    case atStart => exact ⟨(a0), ((⟨#[]⟩ : ByteArray)), (by first | rfl | (simp; done) | (simp [*]; done)), (by first | rfl | (simp; done) | (simp [*]; done)), H', ⟨Nat.le_refl _⟩, ⟨by repeat (first | (with_reducible first | exact HB.out | apply below_alloc | apply pw_below_drewN | apply below_drew1) | exact HB.out)⟩⟩
    case round =>
      clear H'
      try clear c2
      try clear c2b0
      try clear p2
      obtain ⟨x0_1, x3_1, rfl, rfl, HA, HK1, HB⟩ := hrel
      cases gk with
      | zero => exact absurd HA.out (by simp [laws_markText.l0])
      | succ k1 =>
        have H := HA.out
        clear HA
        simp only [laws_markText.l0] at H
        by_cases c3 : x0_1 > 0
        · rw [if_pos c3] at H
          have c3b0 : decide (0 < x0_1) = true := decide_eq_true c3
          clear c3
          obtain ⟨y145, hy145⟩ : ∃ y_ : List Int, y_ = (([(wrap64 (48 + (Int.tmod x0_1 10))) % 256] : List Int)) := ⟨_, rfl⟩
          replace H : (if (strOfNums y145).size + x3_1.size ≤ 9223372036854775807 then (laws_markText.l0 k1 (wrap64 (Int.tdiv x0_1 10)) ((strOfNums y145) ++ x3_1)) else (none)) = some r := by first | (rw [hy145]; with_reducible exact H) | (have H2_ := (Option.bind_some _ _).symm.trans H; rw [hy145]; with_reducible exact H2_) | (have H2_ := (Option.bind_some _ _).symm.trans H; with_reducible exact H2_) | with_reducible exact H | (rw [hy145]; exact H) | exact H
          have Ny145 := Aside0.mk hy145
          clear hy145
          by_cases c4 : (strOfNums y145).size + x3_1.size ≤ 9223372036854775807
          · rw [if_pos c4] at H
            have c4b0 := eq_true c4
            have c4b1 : decide ((strOfNums y145).size + x3_1.size ≤ 9223372036854775807) = true := decide_eq_true c4
            try have c4b2 : (9223372036854775807 < (strOfNums y145).size + x3_1.size) = False := eq_false (Nat.not_lt.2 c4)
            have H' := Aside0.mk H
            clear H
            go_wp2_with (first | ((with_reducible refine gate_dst (N := 12) rfl ?_); refine Kd.R_lit (Kd.int .u8) _ 5 ?hg (N := 12) ?hd (xs := ([(wrap64 (48 + (Int.tmod x0_1 10))) % 256] : List Int)) (inner := [.int .u8 ((wrap64 (48 + (Int.tmod x0_1 10))) % 256)]) (ok := fun _ => True) (okp := fun _ => True) ?hr ?hp (fun _ hk => hk) trivial (Below.refl _ _) (Nat.le_refl _) (by simp) ?_; (case hd => rfl); (case hg => rfl); (case hr => first | (go_simp; done) | (go_simp; rfl)); (case hp => exact (Reps.one (show Kd.M (Kd.int .u8) _ _ _ ((wrap64 (48 + (Int.tmod x0_1 10))) % 256) [.int .u8 ((wrap64 (48 + (Int.tmod x0_1 10))) % 256)] from rfl) (Reps.none _ _))); intro v146 w5 ho6 hb hg_ hnew_; clear hg_ hnew_; (first | rw [← Ny145.out] at ho6 | (simp only [Int.reduceToNat] at ho6; rw [← Ny145.out] at ho6)); have n0_ := Aside0.mk (Kd.R_lower ho6 (below_size (by repeat (first | (with_reducible first | exact HB.out | apply below_alloc | apply pw_below_drewN | apply below_drew1) | exact HB.out)))); have n1_ := Aside0.mk (below_step (by repeat (first | (with_reducible first | exact HB.out | apply below_alloc | apply pw_below_drewN | apply below_drew1) | exact HB.out)) hb); clear HB; have HO147 := n0_; have HB := n1_; clear n0_ n1_; clear hb ho6; have hcv7 := own_string (P := Try.prog) Try.underlying81 Try.underlying5 Try.underlying9 (Kd.own_of_R HO147.out)))
            go_roundg k1
            case measure => have := HK1.out; omega
            case rel => exact ⟨(wrap64 (Int.tdiv x0_1 10)), ((strOfNums y145) ++ x3_1), (by first | rfl | (simp; done) | (simp [*]; done)), (by first | rfl | (simp; done) | (simp [*]; done)), H', ⟨by have := HK1.out; omega⟩, ⟨by repeat (first | (with_reducible first | exact HB.out | apply below_alloc | apply pw_below_drewN | apply below_drew1) | exact HB.out)⟩⟩
          · rw [if_neg c4] at H
            exact absurd H (by simp)
        · rw [if_neg c3] at H
          have c3b0 : decide (0 < x0_1) = false := decide_eq_false c3
          clear c3
          by_cases c8 : 1 + x3_1.size ≤ 9223372036854775807
          · rw [if_pos c8] at H
            have c8b0 := eq_true c8
            have c8b1 : decide (1 + x3_1.size ≤ 9223372036854775807) = true := decide_eq_true c8
            try have c8b2 : (9223372036854775807 < 1 + x3_1.size) = False := eq_false (Nat.not_lt.2 c8)
            obtain rfl := Option.some.inj H
            go_wp2
            go_ret
            exact ⟨by first | rfl | (simp [errW_none, errW_some] <;> rfl) | (simp [*, errW_none, errW_some] <;> rfl), by repeat (first | (with_reducible first | exact HB.out | apply below_alloc | apply pw_below_drewN | apply below_drew1) | exact HB.out)⟩
          · rw [if_neg c8] at H
            exact absurd H (by simp)
end Go.Proofs.Ytolmblfffnnabaa.P
namespace Go.Proofs.Ytolmblfffnnabaa.P
open Go.RowKit Go.Proofs.YtolmblfffnnabaaW.PrintWords Go.Proofs.YtolmblfffnnabaaW.PrintLast Go.Proofs.YtolmblfffnnabaaW.PrintMore
attribute [local go_sem] max2_int min2_int max_two min_two max_three min_three max_four min_four   
set_option linter.unusedVariables false
set_option linter.unusedSimpArgs false
def laws_markStringS.l0 : Nat → List ByteArray → Int → Int → Option (Int × List ByteArray)
  | 0, _, _, _ => none
  | k + 1, x0, x1, x5 => if x5 < (x0.length : Int) then ((laws_markText.f k x1).bind fun t148 => (if 0 ≤ x5 then (laws_markStringS.l0 k (x0.set (x5 : Int).toNat t148) (wrap64 (x1 + 1)) (wrap64 (x5 + 1))) else (none))) else (some (x1, x0))
def laws_markStringS.f (k : Nat) (l0 : List ByteArray) (a1 : Int) : Option (Int × List ByteArray) := laws_markStringS.l0 k l0 a1 0
set_option maxHeartbeats 8000000 in
set_option maxRecDepth 100000 in
theorem laws_markStringS.calls (k : Nat) (P0_ : Nat → Prop) (u9000_ : Value) (l0 : List ByteArray) (a1 : Int) (r1 : Int) (r2 : List ByteArray) (w0 w : World) (hB : Below w0.heap.size w0 w) (ho0 : Kd.R Kd.string 9 w w0.heap.size P0_ u9000_ l0) (h : laws_markStringS.f k l0 a1 = some (r1, r2)) :
    Calls Try.prog 46 #[u9000_, .int .i64 a1] w fun e w' => e = .returned (.int .i64 r1) ∧ Kd.R Kd.string 9 w' w0.heap.size (fun k_ => (P0_ k_ ∨ w.heap.size ≤ k_)) u9000_ r2 ∧ Below w0.heap.size w0 w' ∧ Kept w w' (fun k_ => P0_ k_) := by
  have HO0 := Aside0.mk (show Kd.R Kd.string 9 w w0.heap.size (fun k_ => (P0_ k_ ∨ w.heap.size ≤ k_)) u9000_ l0 from Kd.R_mono ho0 (fun k_ hk => (.inl hk)))
  have HK := Aside0.mk (Kept.refl w (fun k_ => P0_ k_))
  have HW0 := Aside0.mk hB.size
  have HB := Aside0.mk hB
  clear hB
  have H : (laws_markStringS.l0 k l0 a1 0) = some (r1, r2) := h
  clear h
  have H' := Aside0.mk H
  clear H
  go_enter Try.func46, Try.ntmps46
  go_wp2
  go_loopg [1, 5] k (fun kq v1 v5 w' => ∃ (x0_1 : List ByteArray) (x1_1 : Int) (x5_1 : Int), v1 = .int .i64 x1_1 ∧ v5 = .int .i64 x5_1 ∧ Aside0 (laws_markStringS.l0 kq x0_1 x1_1 x5_1 = some (r1, r2)) ∧ Aside0 (kq ≤ k) ∧ Aside0 (Kd.R Kd.string 9 w' w0.heap.size (fun k_ => (P0_ k_ ∨ w.heap.size ≤ k_)) u9000_ x0_1) ∧ Aside0 (Kept w w' (fun k_ => P0_ k_)) ∧ Aside0 (Below w0.heap.size w0 w'))
  case atStart => exact ⟨(l0), (a1), (0), (by first | rfl | (simp; done) | (simp [*]; done)), (by first | rfl | (simp; done) | (simp [*]; done)), H', ⟨Nat.le_refl _⟩, ⟨by (with_reducible repeat (first | apply Kd.R_alloc | apply Kd.R_drewN | apply Kd.R_drew)); exact HO0.out⟩, ⟨by repeat (first | (with_reducible first | exact HK.out | apply Kept.alloc | apply Kept.drewN | apply Kept.drew) | exact HK.out)⟩, ⟨by repeat (first | (with_reducible first | exact HB.out | apply below_alloc | apply pw_below_drewN | apply below_drew1) | exact HB.out)⟩⟩
  case round =>
    clear H'
    try clear p2
    obtain ⟨x0_1, x1_1, x5_1, rfl, rfl, HA, HK1, HO_0, HK, HB⟩ := hrel
    cases gk with
    | zero => exact absurd HA.out (by simp [laws_markStringS.l0])
    | succ k1 =>
      have H := HA.out
      clear HA
      simp only [laws_markStringS.l0] at H
      by_cases c3 : x5_1 < (x0_1.length : Int)
      · rw [if_pos c3] at H
        have c3b0 : decide (x5_1 < (x0_1.length : Int)) = true := decide_eq_true c3
        clear c3
        replace H := Option.bind_eq_some_iff.mp H
        obtain ⟨t148, A40, H⟩ := H
        replace H : (if 0 ≤ x5_1 then (laws_markStringS.l0 k1 (x0_1.set (x5_1 : Int).toNat t148) (wrap64 (x1_1 + 1)) (wrap64 (x5_1 + 1))) else (none)) = some (r1, r2) := H
        have A4 := Aside0.mk A40
        clear A40
        by_cases c5 : 0 ≤ x5_1
        · rw [if_pos c5] at H
          have c5b0 : decide (0 ≤ x5_1) = true := decide_eq_true c5
          clear c5
          obtain ⟨y149, hy149⟩ : ∃ y_ : List ByteArray, y_ = (x0_1.set (x5_1 : Int).toNat t148) := ⟨_, rfl⟩
          replace H : (laws_markStringS.l0 k1 y149 (wrap64 (x1_1 + 1)) (wrap64 (x5_1 + 1))) = some (r1, r2) := by first | (rw [hy149]; with_reducible exact H) | (have H2_ := (Option.bind_some _ _).symm.trans H; rw [hy149]; with_reducible exact H2_) | (have H2_ := (Option.bind_some _ _).symm.trans H; with_reducible exact H2_) | with_reducible exact H | (rw [hy149]; exact H) | exact H
          have Ny149 := Aside0.mk hy149
          clear hy149
          have H' := Aside0.mk H
          clear H
          obtain ⟨Ao7, co7, eo7⟩ := Kd.R_slice HO_0.out
          subst eo7
          go_wp2_with (first | ((with_reducible refine gate_callee (f := 71) rfl ?_); refine goesL_ (some 15) rfl rfl Try.func71 (by kernel_rfl) rfl #[.int .i64 x1_1] rfl (by (try simp only [List.map_toArray, List.map_cons, List.map_nil]); first | done | rfl | (simp only [List.length_drop, List.length_take]; rfl)) ?_; (with_reducible refine (laws_markText.calls k1 x1_1 t148 _ A4.out).mono ?_); rintro e w8 ⟨rfl, hb⟩; refine ⟨_, rfl, ?_⟩; have n0_ := Aside0.mk (Kd.R_below (by (with_reducible repeat (first | apply Kd.R_alloc | apply Kd.R_drewN | apply Kd.R_drew)); exact HO_0.out) hb); have n1_ := Aside0.mk (Kept.below (S := (fun k_ => P0_ k_)) (by repeat (first | (with_reducible first | exact HK.out | apply Kept.alloc | apply Kept.drewN | apply Kept.drew) | exact HK.out)) hb); have n2_ := Aside0.mk (below_step (by repeat (first | (with_reducible first | exact HB.out | apply below_alloc | apply pw_below_drewN | apply below_drew1) | exact HB.out)) hb); clear HO_0; clear HK; clear HB; have HO_0 := n0_; have HK := n1_; have HB := n2_; clear n0_ n1_ n2_; (try clear hb); (try clear hb2); (try clear hk); (try clear hi); have p6 : 0 ≤ (x5_1 : Int) := of_decide_eq_true (by first | (with_reducible assumption) | assumption); have q6 : (x5_1 : Int) < ((x0_1.length : Int) : Int) := of_decide_eq_true (by first | (with_reducible assumption) | assumption); obtain ⟨go6, co6, eo6, gb6, gl6, cl6, HG6⟩ := Kd.R_form HO_0.out (by omega); (first | cases eo6 | (injection eo6 with ea_ en_ ec_; (first | subst ea_ | (injection ea_ with ea_; subst ea_)); subst ec_; clear en_)); have GB6 := Aside0.mk gb6; have GG6 := Aside0.mk HG6; clear gb6 gl6 HG6; have HMgo6 := Aside0.mk (show (P0_ go6 ∨ w.heap.size ≤ go6) from (HO_0.out.1 _ rfl)); obtain ⟨hx6_0, hf6_0⟩ := Kd.R_celln (⟨#[]⟩ : ByteArray) HO_0.out (x5_1 : Int) p6 q6; replace p6 := eq_true p6; replace q6 := eq_true q6; obtain ⟨hy9_, hz9_⟩ := Kd.R_celln (⟨#[]⟩ : ByteArray) HO_0.out (x5_1 : Int) (of_decide_eq_true (by first | (with_reducible assumption) | assumption)) (of_decide_eq_true (by first | (with_reducible assumption) | assumption)); have HP9 := Kd.R_putg HO_0.out (x5_1 : Int) t148) | ((with_reducible refine gate_store (t := 9) (p := 16) rfl ?_); refine store_event (t := 9) (p := 16) (v := ?vo_w10) (w1 := (w8.setCell ⟨go6, (x5_1 : Int).toNat, none⟩ (.string t148))) ?hg ?ho ?hn ?hr ?_; (case ho => rfl); (case hg => rfl); (case hn => rfl); (case hr => first | (go_simp; done) | (go_simp; rfl)); intro w10 hw; have hg : w8.grownBy w10 (some go6) := (by rw [hw]; exact HP9.2); have hp_ : Kd.R Kd.string 9 w10 w0.heap.size (fun k_ => (P0_ k_ ∨ w.heap.size ≤ k_)) (.slice (some ⟨go6, 0, none⟩) x0_1.length co7) y149 := (by rw [hw, Ny149.out]; exact HP9.1); clear HP9; have n0_ := Aside0.mk (hp_); have n1_ := Aside0.mk ((by rw [hw]; exact below_set (HB.out) GB6.out : Below w0.heap.size w0 w10)); have n2_ := Aside0.mk (Kept.of_grown (S := (fun k_ => P0_ k_)) hg (by repeat (first | (with_reducible first | exact HK.out | apply Kept.alloc | apply Kept.drewN | apply Kept.drew) | exact HK.out)) (fun k_ e_ => (HO_0.out.1 k_ e_))); clear HO_0; clear HB; clear HK; have HO_0 := n0_; have HB := n1_; have HK := n2_; clear n0_ n1_ n2_; clear hg hw hp_))
          go_roundg k1
          case measure => have := HK1.out; omega
          case rel => exact ⟨(y149), (wrap64 (x1_1 + 1)), (wrap64 (x5_1 + 1)), (by first | rfl | (simp; done) | (simp [*]; done)), (by first | rfl | (simp; done) | (simp [*]; done)), H', ⟨by have := HK1.out; omega⟩, ⟨by (with_reducible repeat (first | apply Kd.R_alloc | apply Kd.R_drewN | apply Kd.R_drew)); exact HO_0.out⟩, ⟨by repeat (first | (with_reducible first | exact HK.out | apply Kept.alloc | apply Kept.drewN | apply Kept.drew) | exact HK.out)⟩, ⟨by repeat (first | (with_reducible first | exact HB.out | apply below_alloc | apply pw_below_drewN | apply below_drew1) | exact HB.out)⟩⟩
        · rw [if_neg c5] at H
          exact absurd H (by simp)
      · rw [if_neg c3] at H
        have c3b0 : decide (x5_1 < (x0_1.length : Int)) = false := decide_eq_false c3
        clear c3
        simp only [Option.some.injEq, Prod.mk.injEq] at H
        obtain ⟨rfl, rfl⟩ := H
        obtain ⟨Ao11, co11, eo11⟩ := Kd.R_slice HO_0.out
        subst eo11
        go_wp2
        go_ret
        exact ⟨by first | rfl | (simp [errW_none, errW_some] <;> rfl) | (simp [*, errW_none, errW_some] <;> rfl), by (with_reducible repeat (first | apply Kd.R_alloc | apply Kd.R_drewN | apply Kd.R_drew)); exact HO_0.out, by repeat (first | (with_reducible first | exact HB.out | apply below_alloc | apply pw_below_drewN | apply below_drew1) | exact HB.out), by repeat (first | (with_reducible first | exact HK.out | apply Kept.alloc | apply Kept.drewN | apply Kept.drew) | exact HK.out)⟩
end Go.Proofs.Ytolmblfffnnabaa.P
namespace Go.Proofs.Ytolmblfffnnabaa.P
open Go.RowKit Go.Proofs.YtolmblfffnnabaaW.PrintWords Go.Proofs.YtolmblfffnnabaaW.PrintLast Go.Proofs.YtolmblfffnnabaaW.PrintMore
attribute [local go_sem] max2_int min2_int max_two min_two max_three min_three max_four min_four   
set_option linter.unusedVariables false
set_option linter.unusedSimpArgs false
def laws_heldStringS.l0 : Nat → List ByteArray → Int → Int → Option (Int)
  | 0, _, _, _ => none
  | k + 1, x0, x1, x5 => if x5 < (x0.length : Int) then (if 0 ≤ x5 then ((laws_markText.f k x1).bind fun t163 => (if (rdOf ByteArray.empty x0 x5).toList = t163.toList then (laws_heldStringS.l0 k x0 (wrap64 (x1 + 1)) (wrap64 (x5 + 1))) else (some (-1)))) else (none)) else (some x1)
def laws_heldStringS.f (k : Nat) (l0 : List ByteArray) (a1 : Int) : Option (Int) := laws_heldStringS.l0 k l0 a1 0
set_option maxHeartbeats 8000000 in
set_option maxRecDepth 100000 in
theorem laws_heldStringS.calls (k : Nat) (A0 : Option Addr) (c0 : Nat) (l0 : List ByteArray) (a1 : Int) (r : Int) (w : World) (hr0 : Kd.C Kd.string w A0 l0.length l0) (hc0 : l0.length ≤ c0) (h : laws_heldStringS.f k l0 a1 = some r) :
    Calls Try.prog 47 #[.slice A0 l0.length c0, .int .i64 a1] w fun e w' => e = .returned (.int .i64 r) ∧ Below w.heap.size w w' := by
  have HR0 := Aside0.mk hr0
  have HC0 := Aside0.mk hc0
  clear hr0 hc0
  have HB := Aside0.mk (Below.refl w.heap.size w)
  have H : (laws_heldStringS.l0 k l0 a1 0) = some r := h
  clear h
  have H' := Aside0.mk H
  clear H
  go_enter Try.func47, Try.ntmps47
  go_wp2
  go_loopg [1, 5] k (fun kq v1 v5 w' => ∃ (x1_1 : Int) (x5_1 : Int), v1 = .int .i64 x1_1 ∧ v5 = .int .i64 x5_1 ∧ Aside0 (laws_heldStringS.l0 kq l0 x1_1 x5_1 = some r) ∧ Aside0 (kq ≤ k) ∧ Aside0 (Below w.heap.size w w'))
  case atStart => exact ⟨(a1), (0), (by first | rfl | (simp; done) | (simp [*]; done)), (by first | rfl | (simp; done) | (simp [*]; done)), H', ⟨Nat.le_refl _⟩, ⟨by repeat (first | (with_reducible first | exact HB.out | apply below_alloc | apply pw_below_drewN | apply below_drew1) | exact HB.out)⟩⟩
  case round =>
    clear H'
    try clear p2
    obtain ⟨x1_1, x5_1, rfl, rfl, HA, HK1, HB⟩ := hrel
    cases gk with
    | zero => exact absurd HA.out (by simp [laws_heldStringS.l0])
    | succ k1 =>
      have H := HA.out
      clear HA
      simp only [laws_heldStringS.l0] at H
      by_cases c3 : x5_1 < (l0.length : Int)
      · rw [if_pos c3] at H
        have c3b0 : decide (x5_1 < (l0.length : Int)) = true := decide_eq_true c3
        clear c3
        by_cases c4 : 0 ≤ x5_1
        · rw [if_pos c4] at H
          have c4b0 : decide (0 ≤ x5_1) = true := decide_eq_true c4
          clear c4
          replace H := Option.bind_eq_some_iff.mp H
          obtain ⟨t163, A50, H⟩ := H
          replace H : (if (rdOf ByteArray.empty l0 x5_1).toList = t163.toList then (laws_heldStringS.l0 k1 l0 (wrap64 (x1_1 + 1)) (wrap64 (x5_1 + 1))) else (some (-1))) = some r := H
          have A5 := Aside0.mk A50
          clear A50
          by_cases c6 : (rdOf ByteArray.empty l0 x5_1).toList = t163.toList
          · rw [if_pos c6] at H
            have c6b0 : ((rdOf ByteArray.empty l0 x5_1).toList == t163.toList) = true := beq_iff_eq.mpr c6
            have c6b1 : ((rdOf ByteArray.empty l0 x5_1).toList != t163.toList) = false := bne_eq_false_iff_eq.mpr c6
            clear c6
            have H' := Aside0.mk H
            clear H
            try go_wp2
            have n0_ := Aside0.mk (below_drew1 HB.out)
            clear HB
            have HB := n0_
            clear n0_
            have p162 : 0 ≤ (x5_1 : Int) := of_decide_eq_true (by first | (with_reducible assumption) | assumption)
            have q162 : x5_1 < (l0.length : Int) := of_decide_eq_true (by first | (with_reducible assumption) | assumption)
            obtain ⟨ad162, e162, hx162_0⟩ := Kd.at_string HR0.out x5_1 p162 q162
            have hw162_0 := hx162_0
            cases e162
            replace hx162_0 := (HB.out.cell (World.block_lt_of_cell? w _ hx162_0)).trans hx162_0
            replace p162 := eq_true p162
            replace q162 := eq_true q162
            refine start_ (n := 7) (S := fun w' => w'.cell? (ad162.add (x5_1).toNat) = some (.string (rdOf ByteArray.empty l0 x5_1))) (ds := []) #[false, false, false, false, false, false, false] (by kernel_rfl) rfl rfl (((HB.out.cell (World.block_lt_of_cell? w _ hw162_0)).trans hw162_0)) (fun hHeld => ?_)
            generalize wr.drew = w7 at HB hx162_0 hHeld ⊢
            refine pure_ (i := 0) (N := some 12) (v := ?_) (a' := ?_) #[true, false, false, false, false, false, false] rfl rfl (by kernel_rfl) (fun _ _ _ h => h) (Or.inl ⟨by rfl, ?_⟩) ?_ ?_
            rotate_left
            · intro w'
              go_simp
              with_reducible rfl
            rotate_left
            · simp only [Act.put, List.setIfInBounds_toArray, List.set_cons_zero, List.set_cons_succ, i64_w, i32_w]
              rfl
            refine pure_ (i := 1) (N := some 13) (v := ?_) (a' := ?_) #[true, true, false, false, false, false, false] rfl rfl (by kernel_rfl) (fun _ _ _ h => h) (Or.inl ⟨by rfl, ?_⟩) ?_ ?_
            rotate_left
            · intro w'
              go_simp
              with_reducible rfl
            rotate_left
            · simp only [Act.put, List.setIfInBounds_toArray, List.set_cons_zero, List.set_cons_succ, i64_w, i32_w]
              rfl
            refine pure_ (i := 2) (N := some 14) (v := ?_) (a' := ?_) #[true, true, true, false, false, false, false] rfl rfl (by kernel_rfl) (fun _ _ _ h => h) (Or.inl ⟨by rfl, ?_⟩) ?_ ?_
            rotate_left
            · intro w'
              go_simp
              with_reducible rfl
            rotate_left
            · simp only [Act.put, List.setIfInBounds_toArray, List.set_cons_zero, List.set_cons_succ, i64_w, i32_w]
              rfl
            refine pure_ (i := 4) (N := some 16) (v := ?_) (a' := ?_) #[true, true, true, false, true, false, false] rfl rfl (by kernel_rfl) (fun _ _ _ h => h) (Or.inl ⟨by rfl, ?_⟩) ?_ ?_
            rotate_left
            · intro w'
              go_simp
              with_reducible rfl
            rotate_left
            · simp only [Act.put, List.setIfInBounds_toArray, List.set_cons_zero, List.set_cons_succ, i64_w, i32_w]
              rfl
            refine take_ (i := 3) (N := some 15) (v := ?_) (a' := ?_) #[true, true, true, true, true, false, false] rfl rfl (by kernel_rfl) (fun _ _ _ h => h) (Or.inl ⟨by rfl, ?_⟩) hHeld ?_ ?_
            rotate_left
            · intro w' s0
              go_simp
              with_reducible rfl
            rotate_left
            · simp only [Act.put, List.setIfInBounds_toArray, List.set_cons_zero, List.set_cons_succ, i64_w, i32_w]
              rfl
            refine one_ (i := 5) (N := some 17) #[true, true, true, true, true, true, false] rfl rfl (by kernel_rfl) (by decide) (fun K hK => ?_)
            refine goes_ Try.func71 (by kernel_rfl) rfl #[.int .i64 x1_1] (by rfl) rfl rfl (by (try simp only [List.map_toArray, List.map_cons, List.map_nil]); first | done | rfl | (simp only [List.length_drop, List.length_take]; rfl)) ?_
            with_reducible refine (laws_markText.calls k1 x1_1 t163 _ A5.out).mono ?_
            rintro e w8 ⟨rfl, hb⟩
            refine ⟨_, rfl, ?_⟩
            have n0_ := Aside0.mk (below_step (by repeat (first | (with_reducible first | exact HB.out | apply below_alloc | apply pw_below_drewN | apply below_drew1) | exact HB.out)) hb)
            clear HB
            have HB := n0_
            clear n0_
            (try clear hb)
            (try clear hb2)
            (try clear hk)
            (try clear hi)
            refine hK.out _ _ (((HB.out.cell (World.block_lt_of_cell? w _ hw162_0)).trans hw162_0)) (fun hHeld => ?_)
            clear hK K
            refine norm_ (a' := ?_) ?_ ?_
            rotate_left
            · show Act.put _ (some 17) _ = _
              simp only [Act.put, List.setIfInBounds_toArray, List.set_cons_zero, List.set_cons_succ, i64_w, i32_w]
              rfl
            refine pure_ (i := 6) (N := some 18) (v := ?_) (a' := ?_) #[true, true, true, true, true, true, true] rfl rfl (by kernel_rfl) (fun _ _ _ h => h) (Or.inl ⟨by rfl, ?_⟩) ?_ ?_
            rotate_left
            · intro w'
              go_simp
              with_reducible rfl
            rotate_left
            · simp only [Act.put, List.setIfInBounds_toArray, List.set_cons_zero, List.set_cons_succ, i64_w, i32_w]
              rfl
            refine done_ (by kernel_rfl) ?_
            try go_wp2
            go_roundg k1
            case measure => have := HK1.out; omega
            case rel => exact ⟨(wrap64 (x1_1 + 1)), (wrap64 (x5_1 + 1)), (by first | rfl | (simp; done) | (simp [*]; done)), (by first | rfl | (simp; done) | (simp [*]; done)), H', ⟨by have := HK1.out; omega⟩, ⟨by repeat (first | (with_reducible first | exact HB.out | apply below_alloc | apply pw_below_drewN | apply below_drew1) | exact HB.out)⟩⟩
          · rw [if_neg c6] at H
            have c6b0 : ((rdOf ByteArray.empty l0 x5_1).toList == t163.toList) = false := beq_eq_false_iff_ne.mpr c6
            have c6b1 : ((rdOf ByteArray.empty l0 x5_1).toList != t163.toList) = true := bne_iff_ne.mpr c6
            obtain rfl := Option.some.inj H
            try go_wp2
            have n0_ := Aside0.mk (below_drew1 HB.out)
            clear HB
            have HB := n0_
            clear n0_
            have p162 : 0 ≤ (x5_1 : Int) := of_decide_eq_true (by first | (with_reducible assumption) | assumption)
            have q162 : x5_1 < (l0.length : Int) := of_decide_eq_true (by first | (with_reducible assumption) | assumption)
            obtain ⟨ad162, e162, hx162_0⟩ := Kd.at_string HR0.out x5_1 p162 q162
            have hw162_0 := hx162_0
            cases e162
            replace hx162_0 := (HB.out.cell (World.block_lt_of_cell? w _ hx162_0)).trans hx162_0
            replace p162 := eq_true p162
            replace q162 := eq_true q162
            refine start_ (n := 7) (S := fun w' => w'.cell? (ad162.add (x5_1).toNat) = some (.string (rdOf ByteArray.empty l0 x5_1))) (ds := []) #[false, false, false, false, false, false, false] (by kernel_rfl) rfl rfl (((HB.out.cell (World.block_lt_of_cell? w _ hw162_0)).trans hw162_0)) (fun hHeld => ?_)
            generalize wr.drew = w9 at HB hx162_0 hHeld ⊢
            refine pure_ (i := 0) (N := some 12) (v := ?_) (a' := ?_) #[true, false, false, false, false, false, false] rfl rfl (by kernel_rfl) (fun _ _ _ h => h) (Or.inl ⟨by rfl, ?_⟩) ?_ ?_
            rotate_left
            · intro w'
              go_simp
              with_reducible rfl
            rotate_left
            · simp only [Act.put, List.setIfInBounds_toArray, List.set_cons_zero, List.set_cons_succ, i64_w, i32_w]
              rfl
            refine pure_ (i := 1) (N := some 13) (v := ?_) (a' := ?_) #[true, true, false, false, false, false, false] rfl rfl (by kernel_rfl) (fun _ _ _ h => h) (Or.inl ⟨by rfl, ?_⟩) ?_ ?_
            rotate_left
            · intro w'
              go_simp
              with_reducible rfl
            rotate_left
            · simp only [Act.put, List.setIfInBounds_toArray, List.set_cons_zero, List.set_cons_succ, i64_w, i32_w]
              rfl
            refine pure_ (i := 2) (N := some 14) (v := ?_) (a' := ?_) #[true, true, true, false, false, false, false] rfl rfl (by kernel_rfl) (fun _ _ _ h => h) (Or.inl ⟨by rfl, ?_⟩) ?_ ?_
            rotate_left
            · intro w'
              go_simp
              with_reducible rfl
            rotate_left
            · simp only [Act.put, List.setIfInBounds_toArray, List.set_cons_zero, List.set_cons_succ, i64_w, i32_w]
              rfl
            refine pure_ (i := 4) (N := some 16) (v := ?_) (a' := ?_) #[true, true, true, false, true, false, false] rfl rfl (by kernel_rfl) (fun _ _ _ h => h) (Or.inl ⟨by rfl, ?_⟩) ?_ ?_
            rotate_left
            · intro w'
              go_simp
              with_reducible rfl
            rotate_left
            · simp only [Act.put, List.setIfInBounds_toArray, List.set_cons_zero, List.set_cons_succ, i64_w, i32_w]
              rfl
            refine take_ (i := 3) (N := some 15) (v := ?_) (a' := ?_) #[true, true, true, true, true, false, false] rfl rfl (by kernel_rfl) (fun _ _ _ h => h) (Or.inl ⟨by rfl, ?_⟩) hHeld ?_ ?_
            rotate_left
            · intro w' s0
              go_simp
              with_reducible rfl
            rotate_left
            · simp only [Act.put, List.setIfInBounds_toArray, List.set_cons_zero, List.set_cons_succ, i64_w, i32_w]
              rfl
            refine one_ (i := 5) (N := some 17) #[true, true, true, true, true, true, false] rfl rfl (by kernel_rfl) (by decide) (fun K hK => ?_)
            refine goes_ Try.func71 (by kernel_rfl) rfl #[.int .i64 x1_1] (by rfl) rfl rfl (by (try simp only [List.map_toArray, List.map_cons, List.map_nil]); first | done | rfl | (simp only [List.length_drop, List.length_take]; rfl)) ?_
            with_reducible refine (laws_markText.calls k1 x1_1 t163 _ A5.out).mono ?_
            rintro e w10 ⟨rfl, hb⟩
            refine ⟨_, rfl, ?_⟩
            have n0_ := Aside0.mk (below_step (by repeat (first | (with_reducible first | exact HB.out | apply below_alloc | apply pw_below_drewN | apply below_drew1) | exact HB.out)) hb)
            clear HB
            have HB := n0_
            clear n0_
            (try clear hb)
            (try clear hb2)
            (try clear hk)
            (try clear hi)
            refine hK.out _ _ (((HB.out.cell (World.block_lt_of_cell? w _ hw162_0)).trans hw162_0)) (fun hHeld => ?_)
            clear hK K
            refine norm_ (a' := ?_) ?_ ?_
            rotate_left
            · show Act.put _ (some 17) _ = _
              simp only [Act.put, List.setIfInBounds_toArray, List.set_cons_zero, List.set_cons_succ, i64_w, i32_w]
              rfl
            refine pure_ (i := 6) (N := some 18) (v := ?_) (a' := ?_) #[true, true, true, true, true, true, true] rfl rfl (by kernel_rfl) (fun _ _ _ h => h) (Or.inl ⟨by rfl, ?_⟩) ?_ ?_
            rotate_left
            · intro w'
              go_simp
              with_reducible rfl
            rotate_left
            · simp only [Act.put, List.setIfInBounds_toArray, List.set_cons_zero, List.set_cons_succ, i64_w, i32_w]
              rfl
            refine done_ (by kernel_rfl) ?_
            try go_wp2
            go_ret
            exact ⟨by first | rfl | (simp [errW_none, errW_some] <;> rfl) | (simp [*, errW_none, errW_some] <;> rfl), by repeat (first | (with_reducible first | exact HB.out | apply below_alloc | apply pw_below_drewN | apply below_drew1) | exact HB.out)⟩
        · rw [if_neg c4] at H
          exact absurd H (by simp)
      · rw [if_neg c3] at H
        have c3b0 : decide (x5_1 < (l0.length : Int)) = false := decide_eq_false c3
        clear c3
        obtain rfl := Option.some.inj H
        go_wp2
        go_ret
        exact ⟨by first | rfl | (simp [errW_none, errW_some] <;> rfl) | (simp [*, errW_none, errW_some] <;> rfl), by repeat (first | (with_reducible first | exact HB.out | apply below_alloc | apply pw_below_drewN | apply below_drew1) | exact HB.out)⟩
end Go.Proofs.Ytolmblfffnnabaa.P
namespace Go.Proofs.Ytolmblfffnnabaa.P
open Go.RowKit Go.Proofs.YtolmblfffnnabaaW.PrintWords
def mInts (m : Int) (n : Nat) : List Int := (List.range n).map fun j : Nat => m + (j : Int)
theorem mInts_get {m : Int} {n j : Nat} (h : j < n) : (mInts m n)[j]? = some (m + (j : Int)) := by simp [mInts, h]
theorem laws_markIntS_ev {l : List Int} {m : Int} (h0 : 0 ≤ m) (hm : m + l.length ≤ 9223372036854775807) : Ev (fun k => laws_markIntS.f k l m) (m + l.length, mInts m l.length) := by
  have key : ∀ d i (xs : List Int), i + d = l.length → xs.length = l.length → (∀ j, j < i → xs[j]? = some (m + (j : Int))) → Ev (fun k => laws_markIntS.l0 k xs (m + (i : Int)) (i : Int)) (m + (l.length : Int), mInts m l.length) := by
    intro d
    induction d with
    | zero =>
      intro i xs hd hx hj
      obtain rfl : i = l.length := by omega
      refine Ev.step (f := fun _ => some (m + (l.length : Int), xs)) (fun k => by rw [laws_markIntS.l0, if_neg (by omega)]) ?_
      have : xs = mInts m l.length := by
        apply List.ext_getElem?
        intro j
        by_cases h : j < l.length
        · rw [hj j h, mInts_get h]
        · rw [List.getElem?_eq_none (by omega), List.getElem?_eq_none (by simp [mInts]; omega)]
      rw [this]
      exact Ev.now _
    | succ d ih =>
      intro i xs hd hx hj
      have e : wrap64 (m + (i : Int) + 1) = m + ((i + 1 : Nat) : Int) := by rw [w64 (by omega) (by omega)]; omega
      refine Ev.step (f := fun k => laws_markIntS.l0 k (xs.set i (m + (i : Int))) (m + ((i + 1 : Nat) : Int)) ((i + 1 : Nat) : Int)) (fun k => by rw [laws_markIntS.l0, if_pos (by omega), if_pos (by omega), e, w64s (n := l.length) (by omega) (by omega), Int.toNat_natCast]) ?_
      refine ih (i + 1) _ (by omega) (by rw [List.length_set]; exact hx) (fun j h => ?_)
      rcases Nat.lt_or_ge j i with h2 | h2
      · rw [List.getElem?_set_ne (by omega)]
        exact hj j h2
      · obtain rfl : j = i := by omega
        rw [List.getElem?_set_self (by omega)]
  have := key l.length 0 l (by omega) rfl (fun j h => by omega)
  rw [show m + ((0 : Nat) : Int) = m by omega] at this
  exact this
theorem laws_heldIntS_ev {n : Nat} {m : Int} (h0 : 0 ≤ m) (hm : m + n ≤ 9223372036854775807) : Ev (fun k => laws_heldIntS.f k (mInts m n) m) (m + n) := by
  have hl : (mInts m n).length = n := by simp [mInts]
  have key : ∀ d i, i + d = n → Ev (fun k => laws_heldIntS.l0 k (mInts m n) (m + (i : Int)) (i : Int)) (m + (n : Int)) := by
    intro d
    induction d with
    | zero =>
      intro i hd
      obtain rfl : i = n := by omega
      exact Ev.step (f := fun _ => some (m + (i : Int))) (fun k => by rw [laws_heldIntS.l0, if_neg (by omega)]) (Ev.now _)
    | succ d ih =>
      intro i hd
      have e : wrap64 (m + (i : Int) + 1) = m + ((i + 1 : Nat) : Int) := by rw [w64 (by omega) (by omega)]; omega
      have hr : rd (mInts m n) (i : Int) = m + (i : Int) := by rw [rd_nat (by omega)]; have := mInts_get (m := m) (n := n) (j := i) (by omega); rw [List.getElem?_eq_getElem (by omega)] at this; exact Option.some.inj this
      refine Ev.step (f := fun k => laws_heldIntS.l0 k (mInts m n) (m + ((i + 1 : Nat) : Int)) ((i + 1 : Nat) : Int)) (fun k => by rw [laws_heldIntS.l0, if_pos (by omega), if_pos (by omega), hr, if_pos rfl, e, w64s (n := n) (by omega) (by omega)]) ?_
      exact ih (i + 1) (by omega)
  have := key n 0 (by omega)
  rw [show m + ((0 : Nat) : Int) = m by omega] at this
  exact this
end Go.Proofs.Ytolmblfffnnabaa.P
namespace Go.Proofs.Ytolmblfffnnabaa.P
open Go.RowKit Go.Proofs.YtolmblfffnnabaaW.PrintWords
theorem strOfNums_size1 (x : Int) : (strOfNums [x]).size = 1 := by simp [strOfNums, ByteArray.size]
theorem markText_ex {m : Int} (hm : m ≤ 4611686018427387904) : ∃ t, Ev (fun k => laws_markText.f k m) t := by
  have key : ∀ d : Nat, ∀ (x : Int) (t : ByteArray), x.toNat ≤ d → 0 ≤ x → x + t.size ≤ 4611686018427387904 → ∃ r, Ev (fun k => laws_markText.l0 k x t) r := by
    intro d
    induction d with
    | zero =>
      intro x t hd hx hb
      exact ⟨_, Ev.step (f := fun _ => some ((⟨#[109]⟩ : ByteArray) ++ t)) (fun k => by rw [laws_markText.l0, if_neg (by omega), if_pos (by omega)]) (Ev.now _)⟩
    | succ d ih =>
      intro x t hd hx hb
      by_cases h : x > 0
      · have e : wrap64 (Int.tdiv x 10) = x / 10 := by rw [Int.tdiv_eq_ediv_of_nonneg hx]; exact w64 (by omega) (by omega)
        obtain ⟨r, hr⟩ := ih (x / 10) (strOfNums [(wrap64 (48 + (Int.tmod x 10))) % 256] ++ t) (by omega) (by omega) (by rw [ByteArray.size_append, strOfNums_size1]; omega)
        exact ⟨r, Ev.step (fun k => by rw [laws_markText.l0, if_pos h, Option.bind_some, if_pos (by rw [strOfNums_size1]; omega), e]) hr⟩
      · exact ⟨_, Ev.step (f := fun _ => some ((⟨#[109]⟩ : ByteArray) ++ t)) (fun k => by rw [laws_markText.l0, if_neg h, if_pos (by omega)]) (Ev.now _)⟩
  by_cases h : m ≤ 0
  · exact ⟨_, Ev.congr (f := fun _ => some (⟨#[109, 48]⟩ : ByteArray)) (fun k => by unfold laws_markText.f; rw [if_pos h]) (Ev.now _)⟩
  · obtain ⟨r, hr⟩ := key m.toNat m ⟨#[]⟩ (Nat.le_refl _) (by omega) (by simp [ByteArray.size]; omega)
    exact ⟨r, Ev.congr (fun k => by unfold laws_markText.f; rw [if_neg h]) hr⟩
open Classical in
noncomputable def mT (m : Int) : ByteArray := if h : ∃ t, Ev (fun k => laws_markText.f k m) t then h.choose else ⟨#[]⟩
theorem mT_ev {m : Int} (hm : m ≤ 4611686018427387904) : Ev (fun k => laws_markText.f k m) (mT m) := by
  have h := markText_ex hm
  unfold mT
  rw [dif_pos h]
  exact h.choose_spec
noncomputable def mStrs (m : Int) (n : Nat) : List ByteArray := (List.range n).map fun j : Nat => mT (m + (j : Int))
theorem mStrs_get {m : Int} {n j : Nat} (h : j < n) : (mStrs m n)[j]? = some (mT (m + (j : Int))) := by simp [mStrs, h]
theorem laws_markStringS_ev {l : List ByteArray} {m : Int} (h0 : 0 ≤ m) (hm : m + l.length ≤ 4611686018427387904) : Ev (fun k => laws_markStringS.f k l m) (m + l.length, mStrs m l.length) := by
  have key : ∀ d i (xs : List ByteArray), i + d = l.length → xs.length = l.length → (∀ j, j < i → xs[j]? = some (mT (m + (j : Int)))) → Ev (fun k => laws_markStringS.l0 k xs (m + (i : Int)) (i : Int)) (m + (l.length : Int), mStrs m l.length) := by
    intro d
    induction d with
    | zero =>
      intro i xs hd hx hj
      obtain rfl : i = l.length := by omega
      refine Ev.step (f := fun _ => some (m + (l.length : Int), xs)) (fun k => by rw [laws_markStringS.l0, if_neg (by omega)]) ?_
      have : xs = mStrs m l.length := by
        apply List.ext_getElem?
        intro j
        by_cases h : j < l.length
        · rw [hj j h, mStrs_get h]
        · rw [List.getElem?_eq_none (by omega), List.getElem?_eq_none (by simp [mStrs]; omega)]
      rw [this]
      exact Ev.now _
    | succ d ih =>
      intro i xs hd hx hj
      have e : wrap64 (m + (i : Int) + 1) = m + ((i + 1 : Nat) : Int) := by rw [w64 (by omega) (by omega)]; omega
      refine Ev.step (f := fun k => (laws_markText.f k (m + (i : Int))).bind fun t => laws_markStringS.l0 k (xs.set i t) (m + ((i + 1 : Nat) : Int)) ((i + 1 : Nat) : Int)) (fun k => by rw [laws_markStringS.l0, if_pos (by omega), e, w64s (n := l.length) (by omega) (by omega), Int.toNat_natCast]; simp only [if_pos (show (0 : Int) ≤ (i : Int) by omega)]) ?_
      refine Ev.bind (mT_ev (by omega)) ?_
      refine ih (i + 1) _ (by omega) (by rw [List.length_set]; exact hx) (fun j h => ?_)
      rcases Nat.lt_or_ge j i with h2 | h2
      · rw [List.getElem?_set_ne (by omega)]
        exact hj j h2
      · obtain rfl : j = i := by omega
        rw [List.getElem?_set_self (by omega)]
  have := key l.length 0 l (by omega) rfl (fun j h => by omega)
  rw [show m + ((0 : Nat) : Int) = m by omega] at this
  exact this
theorem laws_heldStringS_ev {n : Nat} {m : Int} (h0 : 0 ≤ m) (hm : m + n ≤ 4611686018427387904) : Ev (fun k => laws_heldStringS.f k (mStrs m n) m) (m + n) := by
  have hl : (mStrs m n).length = n := by simp [mStrs]
  have key : ∀ d i, i + d = n → Ev (fun k => laws_heldStringS.l0 k (mStrs m n) (m + (i : Int)) (i : Int)) (m + (n : Int)) := by
    intro d
    induction d with
    | zero =>
      intro i hd
      obtain rfl : i = n := by omega
      exact Ev.step (f := fun _ => some (m + (i : Int))) (fun k => by rw [laws_heldStringS.l0, if_neg (by omega)]) (Ev.now _)
    | succ d ih =>
      intro i hd
      have e : wrap64 (m + (i : Int) + 1) = m + ((i + 1 : Nat) : Int) := by rw [w64 (by omega) (by omega)]; omega
      have hr : rdOf ByteArray.empty (mStrs m n) (i : Int) = mT (m + (i : Int)) := by rw [rdOf_nat (by omega)]; have := mStrs_get (m := m) (n := n) (j := i) (by omega); rw [List.getElem?_eq_getElem (by omega)] at this; exact Option.some.inj this
      refine Ev.step (f := fun k => (laws_markText.f k (m + (i : Int))).bind fun t => if (mT (m + (i : Int))).toList = t.toList then laws_heldStringS.l0 k (mStrs m n) (m + ((i + 1 : Nat) : Int)) ((i + 1 : Nat) : Int) else some (-1)) (fun k => by rw [laws_heldStringS.l0, if_pos (by omega), if_pos (by omega), hr, e, w64s (n := n) (by omega) (by omega)]) ?_
      refine Ev.bind (mT_ev (by omega)) ?_
      exact Ev.congr (fun k => by rw [if_pos rfl]) (ih (i + 1) (by omega))
  have := key n 0 (by omega)
  rw [show m + ((0 : Nat) : Int) = m by omega] at this
  exact this
end Go.Proofs.Ytolmblfffnnabaa.P
namespace Go.Proofs.Ytolmblfffnnabaa.P
open Go.RowKit Go.Proofs.YtolmblfffnnabaaW.PrintWords Go.Proofs.YtolmblfffnnabaaW.PrintLast Go.Proofs.YtolmblfffnnabaaW.PrintMore
attribute [local go_sem] max2_int min2_int max_two min_two max_three min_three max_four min_four   
set_option linter.unusedVariables false
set_option linter.unusedSimpArgs false
def laws_markStore.f (k : Nat) (l0_0 : List ByteArray) (l0_1 : List ByteArray) (l0_2 : List Int) (l0_3 : List Int) (l0_4 : List Int) (a1 : Int) : Option (Int × List ByteArray × List ByteArray × List Int × List Int × List Int) := (laws_markStringS.f k l0_0 a1).bind fun bt151 => ((laws_markStringS.f k l0_1 bt151.1).bind fun bt153 => ((laws_markIntS.f k l0_2 bt153.1).bind fun bt155 => ((laws_markIntS.f k l0_3 bt155.1).bind fun bt157 => ((laws_markIntS.f k l0_4 bt157.1).bind fun bt159 => (some (bt159.1, bt151.2, bt153.2, bt155.2, bt157.2, bt159.2))))))
set_option maxHeartbeats 8000000 in
set_option maxRecDepth 100000 in
theorem laws_markStore.calls (k : Nat) (P0_0_ : Nat → Prop) (u9000_ : Value) (l0_0 : List ByteArray) (P0_1_ : Nat → Prop) (u9001_ : Value) (l0_1 : List ByteArray) (P0_2_ : Nat → Prop) (u9002_ : Value) (l0_2 : List Int) (P0_3_ : Nat → Prop) (u9003_ : Value) (l0_3 : List Int) (P0_4_ : Nat → Prop) (u9004_ : Value) (l0_4 : List Int) (a1 : Int) (r1 : Int) (r2 : List ByteArray) (r3 : List ByteArray) (r4 : List Int) (r5 : List Int) (r6 : List Int) (w0 w : World) (hB : Below w0.heap.size w0 w) (ho0_0 : Kd.R Kd.string 9 w w0.heap.size P0_0_ u9000_ l0_0) (hp0_0_0_1 : ∀ k_, P0_0_ k_ → ¬ P0_1_ k_) (ho0_1 : Kd.R Kd.string 9 w w0.heap.size P0_1_ u9001_ l0_1) (hp0_1_0_0 : ∀ k_, P0_1_ k_ → ¬ P0_0_ k_) (ho0_2 : Kd.R (Kd.int .i64) 3 w w0.heap.size P0_2_ u9002_ l0_2) (hp0_2_0_3 : ∀ k_, P0_2_ k_ → ¬ P0_3_ k_) (hp0_2_0_4 : ∀ k_, P0_2_ k_ → ¬ P0_4_ k_) (ho0_3 : Kd.R (Kd.int .i64) 3 w w0.heap.size P0_3_ u9003_ l0_3) (hp0_3_0_2 : ∀ k_, P0_3_ k_ → ¬ P0_2_ k_) (hp0_3_0_4 : ∀ k_, P0_3_ k_ → ¬ P0_4_ k_) (ho0_4 : Kd.R (Kd.int .i64) 3 w w0.heap.size P0_4_ u9004_ l0_4) (hp0_4_0_2 : ∀ k_, P0_4_ k_ → ¬ P0_2_ k_) (hp0_4_0_3 : ∀ k_, P0_4_ k_ → ¬ P0_3_ k_) (h : laws_markStore.f k l0_0 l0_1 l0_2 l0_3 l0_4 a1 = some (r1, r2, r3, r4, r5, r6)) :
    Calls Try.prog 15 #[.agg #[u9000_, u9001_, u9002_, u9003_, u9004_], .int .i64 a1] w fun e w' => e = .returned (.int .i64 r1) ∧ Kd.R Kd.string 9 w' w0.heap.size (fun k_ => ((P0_0_ k_ ∨ P0_1_ k_ ∨ P0_2_ k_ ∨ P0_3_ k_ ∨ P0_4_ k_) ∨ w.heap.size ≤ k_)) u9000_ r2 ∧ Kd.R Kd.string 9 w' w0.heap.size (fun k_ => ((P0_0_ k_ ∨ P0_1_ k_ ∨ P0_2_ k_ ∨ P0_3_ k_ ∨ P0_4_ k_) ∨ w.heap.size ≤ k_)) u9001_ r3 ∧ Kd.R (Kd.int .i64) 3 w' w0.heap.size (fun k_ => ((P0_0_ k_ ∨ P0_1_ k_ ∨ P0_2_ k_ ∨ P0_3_ k_ ∨ P0_4_ k_) ∨ w.heap.size ≤ k_)) u9002_ r4 ∧ Kd.R (Kd.int .i64) 3 w' w0.heap.size (fun k_ => ((P0_0_ k_ ∨ P0_1_ k_ ∨ P0_2_ k_ ∨ P0_3_ k_ ∨ P0_4_ k_) ∨ w.heap.size ≤ k_)) u9003_ r5 ∧ Kd.R (Kd.int .i64) 3 w' w0.heap.size (fun k_ => ((P0_0_ k_ ∨ P0_1_ k_ ∨ P0_2_ k_ ∨ P0_3_ k_ ∨ P0_4_ k_) ∨ w.heap.size ≤ k_)) u9004_ r6 ∧ Below w0.heap.size w0 w' ∧ Kept w w' (fun k_ => P0_0_ k_ ∨ P0_1_ k_ ∨ P0_2_ k_ ∨ P0_3_ k_ ∨ P0_4_ k_) := by
  have hu25 := Try.underlying25
  have HO0_0 := Aside0.mk (show Kd.R Kd.string 9 w w0.heap.size (fun k_ => ((P0_0_ k_ ∨ P0_1_ k_ ∨ P0_2_ k_ ∨ P0_3_ k_ ∨ P0_4_ k_) ∨ w.heap.size ≤ k_) ∧ some k_ ≠ (u9001_ : Value).ownBlock) u9000_ l0_0 from Kd.R_mono ho0_0 (fun k_ hk => ⟨(.inl (.inl hk)), fun e_ => hp0_0_0_1 k_ hk (ho0_1.1 k_ e_.symm)⟩))
  have HO0_1 := Aside0.mk (show Kd.R Kd.string 9 w w0.heap.size (fun k_ => ((P0_0_ k_ ∨ P0_1_ k_ ∨ P0_2_ k_ ∨ P0_3_ k_ ∨ P0_4_ k_) ∨ w.heap.size ≤ k_) ∧ some k_ ≠ (u9000_ : Value).ownBlock) u9001_ l0_1 from Kd.R_mono ho0_1 (fun k_ hk => ⟨(.inl (.inr (.inl hk))), fun e_ => hp0_1_0_0 k_ hk (ho0_0.1 k_ e_.symm)⟩))
  have HO0_2 := Aside0.mk (show Kd.R (Kd.int .i64) 3 w w0.heap.size (fun k_ => ((P0_0_ k_ ∨ P0_1_ k_ ∨ P0_2_ k_ ∨ P0_3_ k_ ∨ P0_4_ k_) ∨ w.heap.size ≤ k_) ∧ some k_ ≠ (u9003_ : Value).ownBlock ∧ some k_ ≠ (u9004_ : Value).ownBlock) u9002_ l0_2 from Kd.R_mono ho0_2 (fun k_ hk => ⟨(.inl (.inr (.inr (.inl hk)))), fun e_ => hp0_2_0_3 k_ hk (ho0_3.1 k_ e_.symm), fun e_ => hp0_2_0_4 k_ hk (ho0_4.1 k_ e_.symm)⟩))
  have HO0_3 := Aside0.mk (show Kd.R (Kd.int .i64) 3 w w0.heap.size (fun k_ => ((P0_0_ k_ ∨ P0_1_ k_ ∨ P0_2_ k_ ∨ P0_3_ k_ ∨ P0_4_ k_) ∨ w.heap.size ≤ k_) ∧ some k_ ≠ (u9002_ : Value).ownBlock ∧ some k_ ≠ (u9004_ : Value).ownBlock) u9003_ l0_3 from Kd.R_mono ho0_3 (fun k_ hk => ⟨(.inl (.inr (.inr (.inr (.inl hk))))), fun e_ => hp0_3_0_2 k_ hk (ho0_2.1 k_ e_.symm), fun e_ => hp0_3_0_4 k_ hk (ho0_4.1 k_ e_.symm)⟩))
  have HO0_4 := Aside0.mk (show Kd.R (Kd.int .i64) 3 w w0.heap.size (fun k_ => ((P0_0_ k_ ∨ P0_1_ k_ ∨ P0_2_ k_ ∨ P0_3_ k_ ∨ P0_4_ k_) ∨ w.heap.size ≤ k_) ∧ some k_ ≠ (u9002_ : Value).ownBlock ∧ some k_ ≠ (u9003_ : Value).ownBlock) u9004_ l0_4 from Kd.R_mono ho0_4 (fun k_ hk => ⟨(.inl (.inr (.inr (.inr (.inr hk))))), fun e_ => hp0_4_0_2 k_ hk (ho0_2.1 k_ e_.symm), fun e_ => hp0_4_0_3 k_ hk (ho0_3.1 k_ e_.symm)⟩))
  have HK := Aside0.mk (Kept.refl w (fun k_ => P0_0_ k_ ∨ P0_1_ k_ ∨ P0_2_ k_ ∨ P0_3_ k_ ∨ P0_4_ k_))
  have HW0 := Aside0.mk hB.size
  have HB := Aside0.mk hB
  clear hB
  have H : ((laws_markStringS.f k l0_0 a1).bind fun bt151 => ((laws_markStringS.f k l0_1 bt151.1).bind fun bt153 => ((laws_markIntS.f k l0_2 bt153.1).bind fun bt155 => ((laws_markIntS.f k l0_3 bt155.1).bind fun bt157 => ((laws_markIntS.f k l0_4 bt157.1).bind fun bt159 => (some (bt159.1, bt151.2, bt153.2, bt155.2, bt157.2, bt159.2))))))) = some (r1, r2, r3, r4, r5, r6) := h
  clear h
  replace H := Option.bind_eq_some_iff.mp H
  obtain ⟨⟨t151, t152⟩, A30, H⟩ := H
  replace H : ((laws_markStringS.f k l0_1 t151).bind fun bt153 => ((laws_markIntS.f k l0_2 bt153.1).bind fun bt155 => ((laws_markIntS.f k l0_3 bt155.1).bind fun bt157 => ((laws_markIntS.f k l0_4 bt157.1).bind fun bt159 => (some (bt159.1, t152, bt153.2, bt155.2, bt157.2, bt159.2)))))) = some (r1, r2, r3, r4, r5, r6) := H
  have A3 := Aside0.mk A30
  clear A30
  replace H := Option.bind_eq_some_iff.mp H
  obtain ⟨⟨t153, t154⟩, A40, H⟩ := H
  replace H : ((laws_markIntS.f k l0_2 t153).bind fun bt155 => ((laws_markIntS.f k l0_3 bt155.1).bind fun bt157 => ((laws_markIntS.f k l0_4 bt157.1).bind fun bt159 => (some (bt159.1, t152, t154, bt155.2, bt157.2, bt159.2))))) = some (r1, r2, r3, r4, r5, r6) := H
  have A4 := Aside0.mk A40
  clear A40
  replace H := Option.bind_eq_some_iff.mp H
  obtain ⟨⟨t155, t156⟩, A50, H⟩ := H
  replace H : ((laws_markIntS.f k l0_3 t155).bind fun bt157 => ((laws_markIntS.f k l0_4 bt157.1).bind fun bt159 => (some (bt159.1, t152, t154, t156, bt157.2, bt159.2)))) = some (r1, r2, r3, r4, r5, r6) := H
  have A5 := Aside0.mk A50
  clear A50
  replace H := Option.bind_eq_some_iff.mp H
  obtain ⟨⟨t157, t158⟩, A60, H⟩ := H
  replace H : ((laws_markIntS.f k l0_4 t157).bind fun bt159 => (some (bt159.1, t152, t154, t156, t158, bt159.2))) = some (r1, r2, r3, r4, r5, r6) := H
  have A6 := Aside0.mk A60
  clear A60
  replace H := Option.bind_eq_some_iff.mp H
  obtain ⟨⟨t159, t160⟩, A70, H⟩ := H
  replace H : (some (t159, t152, t154, t156, t158, t160)) = some (r1, r2, r3, r4, r5, r6) := H
  have A7 := Aside0.mk A70
  clear A70
  simp only [Option.some.injEq, Prod.mk.injEq] at H
  obtain ⟨rfl, rfl, rfl, rfl, rfl, rfl⟩ := H
  obtain ⟨Ao8, co8, eo8⟩ := Kd.R_slice HO0_0.out
  subst eo8
  obtain ⟨Ao9, co9, eo9⟩ := Kd.R_slice HO0_1.out
  subst eo9
  obtain ⟨Ao10, co10, eo10⟩ := Kd.R_slice HO0_2.out
  subst eo10
  obtain ⟨Ao11, co11, eo11⟩ := Kd.R_slice HO0_3.out
  subst eo11
  obtain ⟨Ao12, co12, eo12⟩ := Kd.R_slice HO0_4.out
  subst eo12
  go_enter Try.func15, Try.ntmps15
  go_wp2_with (first | ((with_reducible refine gate_dst (N := 2) rfl ?_); refine box_event ?hg (N := 2) ?hd (cs := #[.slice Ao8 l0_0.length co8, .slice Ao9 l0_1.length co9, .slice Ao10 l0_2.length co10, .slice Ao11 l0_3.length co11, .slice Ao12 l0_4.length co12]) (t := 25) ?hr ?_; (case hd => rfl); (case hg => rfl); (case hr => first | (go_simp; done) | (go_simp; rfl)); intro gb150 hg w13 hbox hb; have n0_ := Aside0.mk (Kd.R_below (by (with_reducible repeat (first | apply Kd.R_alloc | apply Kd.R_drewN | apply Kd.R_drew)); exact HO0_0.out) hb); have n1_ := Aside0.mk (Kd.R_below (by (with_reducible repeat (first | apply Kd.R_alloc | apply Kd.R_drewN | apply Kd.R_drew)); exact HO0_1.out) hb); have n2_ := Aside0.mk (Kd.R_below (by (with_reducible repeat (first | apply Kd.R_alloc | apply Kd.R_drewN | apply Kd.R_drew)); exact HO0_2.out) hb); have n3_ := Aside0.mk (Kd.R_below (by (with_reducible repeat (first | apply Kd.R_alloc | apply Kd.R_drewN | apply Kd.R_drew)); exact HO0_3.out) hb); have n4_ := Aside0.mk (Kd.R_below (by (with_reducible repeat (first | apply Kd.R_alloc | apply Kd.R_drewN | apply Kd.R_drew)); exact HO0_4.out) hb); have n5_ := Aside0.mk (Kept.below (S := (fun k_ => P0_0_ k_ ∨ P0_1_ k_ ∨ P0_2_ k_ ∨ P0_3_ k_ ∨ P0_4_ k_)) (by repeat (first | (with_reducible first | exact HK.out | apply Kept.alloc | apply Kept.drewN | apply Kept.drew) | exact HK.out)) hb); have n6_ := Aside0.mk (below_step (by repeat (first | (with_reducible first | exact HB.out | apply below_alloc | apply pw_below_drewN | apply below_drew1) | exact HB.out)) hb); have n7_ := Aside0.mk (hbox); have n8_ := Aside0.mk ((by rw [hg]; exact (by first | exact HK.out.1 | exact (show Kept w _ (fun k_ => P0_0_ k_ ∨ P0_1_ k_ ∨ P0_2_ k_ ∨ P0_3_ k_ ∨ P0_4_ k_) from by repeat (first | (with_reducible first | exact HK.out | apply Kept.alloc | apply Kept.drewN | apply Kept.drew) | exact HK.out)).1) : w.heap.size ≤ gb150)); have n9_ := Aside0.mk ((by rw [hg]; exact (below_size (by repeat (first | (with_reducible first | exact HB.out | apply below_alloc | apply pw_below_drewN | apply below_drew1) | exact HB.out))) : w0.heap.size ≤ gb150)); clear HO0_0; clear HO0_1; clear HO0_2; clear HO0_3; clear HO0_4; clear HK; clear HB; have HO0_0 := n0_; have HO0_1 := n1_; have HO0_2 := n2_; have HO0_3 := n3_; have HO0_4 := n4_; have HK := n5_; have HB := n6_; have BK150 := n7_; have GW150 := n8_; have GE150 := n9_; clear n0_ n1_ n2_ n3_ n4_ n5_ n6_ n7_ n8_ n9_; clear hb hbox hg; have hcz14_0 : w13.cell? ⟨gb150, 0, none⟩ = some (.slice Ao8 l0_0.length co8) := (blk_cell BK150.out 0).trans rfl; have hcz14_1 : w13.cell? ⟨gb150, 1, none⟩ = some (.slice Ao9 l0_1.length co9) := (blk_cell BK150.out 1).trans rfl; have hcz14_2 : w13.cell? ⟨gb150, 2, none⟩ = some (.slice Ao10 l0_2.length co10) := (blk_cell BK150.out 2).trans rfl; have hcz14_3 : w13.cell? ⟨gb150, 3, none⟩ = some (.slice Ao11 l0_3.length co11) := (blk_cell BK150.out 3).trans rfl; have hcz14_4 : w13.cell? ⟨gb150, 4, none⟩ = some (.slice Ao12 l0_4.length co12) := (blk_cell BK150.out 4).trans rfl; have hfz14_0 := blk_frozen BK150.out 0; have hfz14_1 := blk_frozen BK150.out 1; have hfz14_2 := blk_frozen BK150.out 2; have hfz14_3 := blk_frozen BK150.out 3; have hfz14_4 := blk_frozen BK150.out 4) | ((with_reducible refine gate_callee (f := 46) rfl ?_); refine goesL_ (some 8) rfl rfl Try.func46 (by kernel_rfl) rfl #[.slice Ao8 l0_0.length co8, .int .i64 a1] rfl (by (try simp only [List.map_toArray, List.map_cons, List.map_nil]); first | done | rfl | (simp only [List.length_drop, List.length_take]; rfl)) ?_; (with_reducible refine (laws_markStringS.calls k (fun k_ => some k_ = (.slice Ao8 l0_0.length co8 : Value).ownBlock) (.slice Ao8 l0_0.length co8) l0_0 a1 t151 t152 w0 _ ?side1 ?side2 A3.out).mono ?_); (case side1 => repeat (first | (with_reducible first | exact HB.out | apply below_alloc | apply pw_below_drewN | apply below_drew1 | refine below_set ?_ GE150.out) | exact HB.out)); (case side2 => exact Kd.R_tight rfl HO0_0.out); rintro e w15 ⟨rfl, hy0, hb, hkp⟩; refine ⟨_, rfl, ?_⟩; have n0_ := Aside0.mk (Kd.R_reok rfl hy0 (fun k_ e_ => HO0_0.out.1 k_ e_)); have n1_ := Aside0.mk (Kd.R_mono (ok' := fun k_ => ((P0_0_ k_ ∨ P0_1_ k_ ∨ P0_2_ k_ ∨ P0_3_ k_ ∨ P0_4_ k_) ∨ w.heap.size ≤ k_) ∧ some k_ ≠ (.slice Ao8 l0_0.length co8 : Value).ownBlock) (Kd.R_keptB (HO0_1.out) hkp (fun k_ hk_ hs_ => (hk_.2) hs_)) (fun k_ hk_ => ⟨hk_.1.1, hk_.1.2⟩)); have n2_ := Aside0.mk (Kd.R_mono (ok' := fun k_ => ((P0_0_ k_ ∨ P0_1_ k_ ∨ P0_2_ k_ ∨ P0_3_ k_ ∨ P0_4_ k_) ∨ w.heap.size ≤ k_) ∧ some k_ ≠ (.slice Ao11 l0_3.length co11 : Value).ownBlock ∧ some k_ ≠ (.slice Ao12 l0_4.length co12 : Value).ownBlock) (Kd.R_keptB ((Kd.R_apart' HO0_2.out (Kd.R_typed HO0_0.out) (by decide))) hkp (fun k_ hk_ hs_ => (hk_.2) hs_)) (fun k_ hk_ => ⟨hk_.1.1.1, hk_.1.1.2.1, hk_.1.1.2.2⟩)); have n3_ := Aside0.mk (Kd.R_mono (ok' := fun k_ => ((P0_0_ k_ ∨ P0_1_ k_ ∨ P0_2_ k_ ∨ P0_3_ k_ ∨ P0_4_ k_) ∨ w.heap.size ≤ k_) ∧ some k_ ≠ (.slice Ao10 l0_2.length co10 : Value).ownBlock ∧ some k_ ≠ (.slice Ao12 l0_4.length co12 : Value).ownBlock) (Kd.R_keptB ((Kd.R_apart' HO0_3.out (Kd.R_typed HO0_0.out) (by decide))) hkp (fun k_ hk_ hs_ => (hk_.2) hs_)) (fun k_ hk_ => ⟨hk_.1.1.1, hk_.1.1.2.1, hk_.1.1.2.2⟩)); have n4_ := Aside0.mk (Kd.R_mono (ok' := fun k_ => ((P0_0_ k_ ∨ P0_1_ k_ ∨ P0_2_ k_ ∨ P0_3_ k_ ∨ P0_4_ k_) ∨ w.heap.size ≤ k_) ∧ some k_ ≠ (.slice Ao10 l0_2.length co10 : Value).ownBlock ∧ some k_ ≠ (.slice Ao11 l0_3.length co11 : Value).ownBlock) (Kd.R_keptB ((Kd.R_apart' HO0_4.out (Kd.R_typed HO0_0.out) (by decide))) hkp (fun k_ hk_ hs_ => (hk_.2) hs_)) (fun k_ hk_ => ⟨hk_.1.1.1, hk_.1.1.2.1, hk_.1.1.2.2⟩)); have n5_ := Aside0.mk (blk_kept (by (with_reducible repeat (first | refine blk_drewN ?_ _ | refine blk_drew ?_ | refine blk_alloc ?_ _)); exact BK150.out) hkp (fun hs_ => (fun e_ => (Kd.R_ne HO0_0.out BK150.out (by decide)) e_) hs_)); have n6_ := Aside0.mk (Kept.then_ (S := (fun k_ => P0_0_ k_ ∨ P0_1_ k_ ∨ P0_2_ k_ ∨ P0_3_ k_ ∨ P0_4_ k_)) (by repeat (first | (with_reducible first | exact HK.out | apply Kept.alloc | apply Kept.drewN | apply Kept.drew | refine Kept.setCell ?_ (.inr GW150.out) _) | exact HK.out)) hkp (fun k_ hs_ => (fun e_ => (HO0_0.out.1 k_ e_.symm).1) hs_)); have n7_ := Aside0.mk (hb); clear HO0_0; clear HO0_1; clear HO0_2; clear HO0_3; clear HO0_4; clear BK150; clear HK; clear HB; have HO0_0 := n0_; have HO0_1 := n1_; have HO0_2 := n2_; have HO0_3 := n3_; have HO0_4 := n4_; have BK150 := n5_; have HK := n6_; have HB := n7_; clear n0_ n1_ n2_ n3_ n4_ n5_ n6_ n7_; (try clear hb); (try clear hkp); (try clear hy0); have hcz16_0 : w15.cell? ⟨gb150, 0, none⟩ = some (.slice Ao8 l0_0.length co8) := (blk_cell BK150.out 0).trans rfl; have hcz16_1 : w15.cell? ⟨gb150, 1, none⟩ = some (.slice Ao9 l0_1.length co9) := (blk_cell BK150.out 1).trans rfl; have hcz16_2 : w15.cell? ⟨gb150, 2, none⟩ = some (.slice Ao10 l0_2.length co10) := (blk_cell BK150.out 2).trans rfl; have hcz16_3 : w15.cell? ⟨gb150, 3, none⟩ = some (.slice Ao11 l0_3.length co11) := (blk_cell BK150.out 3).trans rfl; have hcz16_4 : w15.cell? ⟨gb150, 4, none⟩ = some (.slice Ao12 l0_4.length co12) := (blk_cell BK150.out 4).trans rfl; have hfz16_0 := blk_frozen BK150.out 0; have hfz16_1 := blk_frozen BK150.out 1; have hfz16_2 := blk_frozen BK150.out 2; have hfz16_3 := blk_frozen BK150.out 3; have hfz16_4 := blk_frozen BK150.out 4) | ((with_reducible refine gate_callee (f := 46) rfl ?_); refine goesL_ (some 12) rfl rfl Try.func46 (by kernel_rfl) rfl #[.slice Ao9 l0_1.length co9, .int .i64 t151] rfl (by (try simp only [List.map_toArray, List.map_cons, List.map_nil]); first | done | rfl | (simp only [List.length_drop, List.length_take]; rfl)) ?_; (with_reducible refine (laws_markStringS.calls k (fun k_ => some k_ = (.slice Ao9 l0_1.length co9 : Value).ownBlock) (.slice Ao9 l0_1.length co9) l0_1 t151 t153 t154 w0 _ ?side1 ?side2 A4.out).mono ?_); (case side1 => repeat (first | (with_reducible first | exact HB.out | apply below_alloc | apply pw_below_drewN | apply below_drew1 | refine below_set ?_ GE150.out) | exact HB.out)); (case side2 => exact Kd.R_tight rfl HO0_1.out); rintro e w17 ⟨rfl, hy0, hb, hkp⟩; refine ⟨_, rfl, ?_⟩; have n0_ := Aside0.mk (Kd.R_mono (ok' := fun k_ => ((P0_0_ k_ ∨ P0_1_ k_ ∨ P0_2_ k_ ∨ P0_3_ k_ ∨ P0_4_ k_) ∨ w.heap.size ≤ k_) ∧ some k_ ≠ (.slice Ao9 l0_1.length co9 : Value).ownBlock) (Kd.R_keptB (HO0_0.out) hkp (fun k_ hk_ hs_ => (hk_.2) hs_)) (fun k_ hk_ => ⟨hk_.1.1, hk_.1.2⟩)); have n1_ := Aside0.mk (Kd.R_reok rfl hy0 (fun k_ e_ => HO0_1.out.1 k_ e_)); have n2_ := Aside0.mk (Kd.R_mono (ok' := fun k_ => ((P0_0_ k_ ∨ P0_1_ k_ ∨ P0_2_ k_ ∨ P0_3_ k_ ∨ P0_4_ k_) ∨ w.heap.size ≤ k_) ∧ some k_ ≠ (.slice Ao11 l0_3.length co11 : Value).ownBlock ∧ some k_ ≠ (.slice Ao12 l0_4.length co12 : Value).ownBlock) (Kd.R_keptB ((Kd.R_apart' HO0_2.out (Kd.R_typed HO0_1.out) (by decide))) hkp (fun k_ hk_ hs_ => (hk_.2) hs_)) (fun k_ hk_ => ⟨hk_.1.1.1, hk_.1.1.2.1, hk_.1.1.2.2⟩)); have n3_ := Aside0.mk (Kd.R_mono (ok' := fun k_ => ((P0_0_ k_ ∨ P0_1_ k_ ∨ P0_2_ k_ ∨ P0_3_ k_ ∨ P0_4_ k_) ∨ w.heap.size ≤ k_) ∧ some k_ ≠ (.slice Ao10 l0_2.length co10 : Value).ownBlock ∧ some k_ ≠ (.slice Ao12 l0_4.length co12 : Value).ownBlock) (Kd.R_keptB ((Kd.R_apart' HO0_3.out (Kd.R_typed HO0_1.out) (by decide))) hkp (fun k_ hk_ hs_ => (hk_.2) hs_)) (fun k_ hk_ => ⟨hk_.1.1.1, hk_.1.1.2.1, hk_.1.1.2.2⟩)); have n4_ := Aside0.mk (Kd.R_mono (ok' := fun k_ => ((P0_0_ k_ ∨ P0_1_ k_ ∨ P0_2_ k_ ∨ P0_3_ k_ ∨ P0_4_ k_) ∨ w.heap.size ≤ k_) ∧ some k_ ≠ (.slice Ao10 l0_2.length co10 : Value).ownBlock ∧ some k_ ≠ (.slice Ao11 l0_3.length co11 : Value).ownBlock) (Kd.R_keptB ((Kd.R_apart' HO0_4.out (Kd.R_typed HO0_1.out) (by decide))) hkp (fun k_ hk_ hs_ => (hk_.2) hs_)) (fun k_ hk_ => ⟨hk_.1.1.1, hk_.1.1.2.1, hk_.1.1.2.2⟩)); have n5_ := Aside0.mk (blk_kept (by (with_reducible repeat (first | refine blk_drewN ?_ _ | refine blk_drew ?_ | refine blk_alloc ?_ _)); exact BK150.out) hkp (fun hs_ => (fun e_ => (Kd.R_ne HO0_1.out BK150.out (by decide)) e_) hs_)); have n6_ := Aside0.mk (Kept.then_ (S := (fun k_ => P0_0_ k_ ∨ P0_1_ k_ ∨ P0_2_ k_ ∨ P0_3_ k_ ∨ P0_4_ k_)) (by repeat (first | (with_reducible first | exact HK.out | apply Kept.alloc | apply Kept.drewN | apply Kept.drew | refine Kept.setCell ?_ (.inr GW150.out) _) | exact HK.out)) hkp (fun k_ hs_ => (fun e_ => (HO0_1.out.1 k_ e_.symm).1) hs_)); have n7_ := Aside0.mk (hb); clear HO0_0; clear HO0_1; clear HO0_2; clear HO0_3; clear HO0_4; clear BK150; clear HK; clear HB; have HO0_0 := n0_; have HO0_1 := n1_; have HO0_2 := n2_; have HO0_3 := n3_; have HO0_4 := n4_; have BK150 := n5_; have HK := n6_; have HB := n7_; clear n0_ n1_ n2_ n3_ n4_ n5_ n6_ n7_; (try clear hb); (try clear hkp); (try clear hy0); have hcz18_0 : w17.cell? ⟨gb150, 0, none⟩ = some (.slice Ao8 l0_0.length co8) := (blk_cell BK150.out 0).trans rfl; have hcz18_1 : w17.cell? ⟨gb150, 1, none⟩ = some (.slice Ao9 l0_1.length co9) := (blk_cell BK150.out 1).trans rfl; have hcz18_2 : w17.cell? ⟨gb150, 2, none⟩ = some (.slice Ao10 l0_2.length co10) := (blk_cell BK150.out 2).trans rfl; have hcz18_3 : w17.cell? ⟨gb150, 3, none⟩ = some (.slice Ao11 l0_3.length co11) := (blk_cell BK150.out 3).trans rfl; have hcz18_4 : w17.cell? ⟨gb150, 4, none⟩ = some (.slice Ao12 l0_4.length co12) := (blk_cell BK150.out 4).trans rfl; have hfz18_0 := blk_frozen BK150.out 0; have hfz18_1 := blk_frozen BK150.out 1; have hfz18_2 := blk_frozen BK150.out 2; have hfz18_3 := blk_frozen BK150.out 3; have hfz18_4 := blk_frozen BK150.out 4) | ((with_reducible refine gate_callee (f := 39) rfl ?_); refine goesL_ (some 16) rfl rfl Try.func39 (by kernel_rfl) rfl #[.slice Ao10 l0_2.length co10, .int .i64 t153] rfl (by (try simp only [List.map_toArray, List.map_cons, List.map_nil]); first | done | rfl | (simp only [List.length_drop, List.length_take]; rfl)) ?_; (with_reducible refine (laws_markIntS.calls k (fun k_ => some k_ = (.slice Ao10 l0_2.length co10 : Value).ownBlock) (.slice Ao10 l0_2.length co10) l0_2 t153 t155 t156 w0 _ ?side1 ?side2 A5.out).mono ?_); (case side1 => repeat (first | (with_reducible first | exact HB.out | apply below_alloc | apply pw_below_drewN | apply below_drew1 | refine below_set ?_ GE150.out) | exact HB.out)); (case side2 => exact Kd.R_tight rfl HO0_2.out); rintro e w19 ⟨rfl, hy0, hb, hkp⟩; refine ⟨_, rfl, ?_⟩; have n0_ := Aside0.mk (Kd.R_mono (ok' := fun k_ => ((P0_0_ k_ ∨ P0_1_ k_ ∨ P0_2_ k_ ∨ P0_3_ k_ ∨ P0_4_ k_) ∨ w.heap.size ≤ k_) ∧ some k_ ≠ (.slice Ao9 l0_1.length co9 : Value).ownBlock) (Kd.R_keptB ((Kd.R_apart' HO0_0.out (Kd.R_typed HO0_2.out) (by decide))) hkp (fun k_ hk_ hs_ => (hk_.2) hs_)) (fun k_ hk_ => ⟨hk_.1.1.1, hk_.1.1.2⟩)); have n1_ := Aside0.mk (Kd.R_mono (ok' := fun k_ => ((P0_0_ k_ ∨ P0_1_ k_ ∨ P0_2_ k_ ∨ P0_3_ k_ ∨ P0_4_ k_) ∨ w.heap.size ≤ k_) ∧ some k_ ≠ (.slice Ao8 l0_0.length co8 : Value).ownBlock) (Kd.R_keptB ((Kd.R_apart' HO0_1.out (Kd.R_typed HO0_2.out) (by decide))) hkp (fun k_ hk_ hs_ => (hk_.2) hs_)) (fun k_ hk_ => ⟨hk_.1.1.1, hk_.1.1.2⟩)); have n2_ := Aside0.mk (Kd.R_reok rfl hy0 (fun k_ e_ => HO0_2.out.1 k_ e_)); have n3_ := Aside0.mk (Kd.R_mono (ok' := fun k_ => ((P0_0_ k_ ∨ P0_1_ k_ ∨ P0_2_ k_ ∨ P0_3_ k_ ∨ P0_4_ k_) ∨ w.heap.size ≤ k_) ∧ some k_ ≠ (.slice Ao10 l0_2.length co10 : Value).ownBlock ∧ some k_ ≠ (.slice Ao12 l0_4.length co12 : Value).ownBlock) (Kd.R_keptB (HO0_3.out) hkp (fun k_ hk_ hs_ => (hk_.2.1) hs_)) (fun k_ hk_ => ⟨hk_.1.1, hk_.1.2.1, hk_.1.2.2⟩)); have n4_ := Aside0.mk (Kd.R_mono (ok' := fun k_ => ((P0_0_ k_ ∨ P0_1_ k_ ∨ P0_2_ k_ ∨ P0_3_ k_ ∨ P0_4_ k_) ∨ w.heap.size ≤ k_) ∧ some k_ ≠ (.slice Ao10 l0_2.length co10 : Value).ownBlock ∧ some k_ ≠ (.slice Ao11 l0_3.length co11 : Value).ownBlock) (Kd.R_keptB (HO0_4.out) hkp (fun k_ hk_ hs_ => (hk_.2.1) hs_)) (fun k_ hk_ => ⟨hk_.1.1, hk_.1.2.1, hk_.1.2.2⟩)); have n5_ := Aside0.mk (blk_kept (by (with_reducible repeat (first | refine blk_drewN ?_ _ | refine blk_drew ?_ | refine blk_alloc ?_ _)); exact BK150.out) hkp (fun hs_ => (fun e_ => (Kd.R_ne HO0_2.out BK150.out (by decide)) e_) hs_)); have n6_ := Aside0.mk (Kept.then_ (S := (fun k_ => P0_0_ k_ ∨ P0_1_ k_ ∨ P0_2_ k_ ∨ P0_3_ k_ ∨ P0_4_ k_)) (by repeat (first | (with_reducible first | exact HK.out | apply Kept.alloc | apply Kept.drewN | apply Kept.drew | refine Kept.setCell ?_ (.inr GW150.out) _) | exact HK.out)) hkp (fun k_ hs_ => (fun e_ => (HO0_2.out.1 k_ e_.symm).1) hs_)); have n7_ := Aside0.mk (hb); clear HO0_0; clear HO0_1; clear HO0_2; clear HO0_3; clear HO0_4; clear BK150; clear HK; clear HB; have HO0_0 := n0_; have HO0_1 := n1_; have HO0_2 := n2_; have HO0_3 := n3_; have HO0_4 := n4_; have BK150 := n5_; have HK := n6_; have HB := n7_; clear n0_ n1_ n2_ n3_ n4_ n5_ n6_ n7_; (try clear hb); (try clear hkp); (try clear hy0); have hcz20_0 : w19.cell? ⟨gb150, 0, none⟩ = some (.slice Ao8 l0_0.length co8) := (blk_cell BK150.out 0).trans rfl; have hcz20_1 : w19.cell? ⟨gb150, 1, none⟩ = some (.slice Ao9 l0_1.length co9) := (blk_cell BK150.out 1).trans rfl; have hcz20_2 : w19.cell? ⟨gb150, 2, none⟩ = some (.slice Ao10 l0_2.length co10) := (blk_cell BK150.out 2).trans rfl; have hcz20_3 : w19.cell? ⟨gb150, 3, none⟩ = some (.slice Ao11 l0_3.length co11) := (blk_cell BK150.out 3).trans rfl; have hcz20_4 : w19.cell? ⟨gb150, 4, none⟩ = some (.slice Ao12 l0_4.length co12) := (blk_cell BK150.out 4).trans rfl; have hfz20_0 := blk_frozen BK150.out 0; have hfz20_1 := blk_frozen BK150.out 1; have hfz20_2 := blk_frozen BK150.out 2; have hfz20_3 := blk_frozen BK150.out 3; have hfz20_4 := blk_frozen BK150.out 4) | ((with_reducible refine gate_callee (f := 39) rfl ?_); refine goesL_ (some 20) rfl rfl Try.func39 (by kernel_rfl) rfl #[.slice Ao11 l0_3.length co11, .int .i64 t155] rfl (by (try simp only [List.map_toArray, List.map_cons, List.map_nil]); first | done | rfl | (simp only [List.length_drop, List.length_take]; rfl)) ?_; (with_reducible refine (laws_markIntS.calls k (fun k_ => some k_ = (.slice Ao11 l0_3.length co11 : Value).ownBlock) (.slice Ao11 l0_3.length co11) l0_3 t155 t157 t158 w0 _ ?side1 ?side2 A6.out).mono ?_); (case side1 => repeat (first | (with_reducible first | exact HB.out | apply below_alloc | apply pw_below_drewN | apply below_drew1 | refine below_set ?_ GE150.out) | exact HB.out)); (case side2 => exact Kd.R_tight rfl HO0_3.out); rintro e w21 ⟨rfl, hy0, hb, hkp⟩; refine ⟨_, rfl, ?_⟩; have n0_ := Aside0.mk (Kd.R_mono (ok' := fun k_ => ((P0_0_ k_ ∨ P0_1_ k_ ∨ P0_2_ k_ ∨ P0_3_ k_ ∨ P0_4_ k_) ∨ w.heap.size ≤ k_) ∧ some k_ ≠ (.slice Ao9 l0_1.length co9 : Value).ownBlock) (Kd.R_keptB ((Kd.R_apart' HO0_0.out (Kd.R_typed HO0_3.out) (by decide))) hkp (fun k_ hk_ hs_ => (hk_.2) hs_)) (fun k_ hk_ => ⟨hk_.1.1.1, hk_.1.1.2⟩)); have n1_ := Aside0.mk (Kd.R_mono (ok' := fun k_ => ((P0_0_ k_ ∨ P0_1_ k_ ∨ P0_2_ k_ ∨ P0_3_ k_ ∨ P0_4_ k_) ∨ w.heap.size ≤ k_) ∧ some k_ ≠ (.slice Ao8 l0_0.length co8 : Value).ownBlock) (Kd.R_keptB ((Kd.R_apart' HO0_1.out (Kd.R_typed HO0_3.out) (by decide))) hkp (fun k_ hk_ hs_ => (hk_.2) hs_)) (fun k_ hk_ => ⟨hk_.1.1.1, hk_.1.1.2⟩)); have n2_ := Aside0.mk (Kd.R_mono (ok' := fun k_ => ((P0_0_ k_ ∨ P0_1_ k_ ∨ P0_2_ k_ ∨ P0_3_ k_ ∨ P0_4_ k_) ∨ w.heap.size ≤ k_) ∧ some k_ ≠ (.slice Ao11 l0_3.length co11 : Value).ownBlock ∧ some k_ ≠ (.slice Ao12 l0_4.length co12 : Value).ownBlock) (Kd.R_keptB (HO0_2.out) hkp (fun k_ hk_ hs_ => (hk_.2.1) hs_)) (fun k_ hk_ => ⟨hk_.1.1, hk_.1.2.1, hk_.1.2.2⟩)); have n3_ := Aside0.mk (Kd.R_reok rfl hy0 (fun k_ e_ => HO0_3.out.1 k_ e_)); have n4_ := Aside0.mk (Kd.R_mono (ok' := fun k_ => ((P0_0_ k_ ∨ P0_1_ k_ ∨ P0_2_ k_ ∨ P0_3_ k_ ∨ P0_4_ k_) ∨ w.heap.size ≤ k_) ∧ some k_ ≠ (.slice Ao10 l0_2.length co10 : Value).ownBlock ∧ some k_ ≠ (.slice Ao11 l0_3.length co11 : Value).ownBlock) (Kd.R_keptB (HO0_4.out) hkp (fun k_ hk_ hs_ => (hk_.2.2) hs_)) (fun k_ hk_ => ⟨hk_.1.1, hk_.1.2.1, hk_.1.2.2⟩)); have n5_ := Aside0.mk (blk_kept (by (with_reducible repeat (first | refine blk_drewN ?_ _ | refine blk_drew ?_ | refine blk_alloc ?_ _)); exact BK150.out) hkp (fun hs_ => (fun e_ => (Kd.R_ne HO0_3.out BK150.out (by decide)) e_) hs_)); have n6_ := Aside0.mk (Kept.then_ (S := (fun k_ => P0_0_ k_ ∨ P0_1_ k_ ∨ P0_2_ k_ ∨ P0_3_ k_ ∨ P0_4_ k_)) (by repeat (first | (with_reducible first | exact HK.out | apply Kept.alloc | apply Kept.drewN | apply Kept.drew | refine Kept.setCell ?_ (.inr GW150.out) _) | exact HK.out)) hkp (fun k_ hs_ => (fun e_ => (HO0_3.out.1 k_ e_.symm).1) hs_)); have n7_ := Aside0.mk (hb); clear HO0_0; clear HO0_1; clear HO0_2; clear HO0_3; clear HO0_4; clear BK150; clear HK; clear HB; have HO0_0 := n0_; have HO0_1 := n1_; have HO0_2 := n2_; have HO0_3 := n3_; have HO0_4 := n4_; have BK150 := n5_; have HK := n6_; have HB := n7_; clear n0_ n1_ n2_ n3_ n4_ n5_ n6_ n7_; (try clear hb); (try clear hkp); (try clear hy0); have hcz22_0 : w21.cell? ⟨gb150, 0, none⟩ = some (.slice Ao8 l0_0.length co8) := (blk_cell BK150.out 0).trans rfl; have hcz22_1 : w21.cell? ⟨gb150, 1, none⟩ = some (.slice Ao9 l0_1.length co9) := (blk_cell BK150.out 1).trans rfl; have hcz22_2 : w21.cell? ⟨gb150, 2, none⟩ = some (.slice Ao10 l0_2.length co10) := (blk_cell BK150.out 2).trans rfl; have hcz22_3 : w21.cell? ⟨gb150, 3, none⟩ = some (.slice Ao11 l0_3.length co11) := (blk_cell BK150.out 3).trans rfl; have hcz22_4 : w21.cell? ⟨gb150, 4, none⟩ = some (.slice Ao12 l0_4.length co12) := (blk_cell BK150.out 4).trans rfl; have hfz22_0 := blk_frozen BK150.out 0; have hfz22_1 := blk_frozen BK150.out 1; have hfz22_2 := blk_frozen BK150.out 2; have hfz22_3 := blk_frozen BK150.out 3; have hfz22_4 := blk_frozen BK150.out 4) | ((with_reducible refine gate_callee (f := 39) rfl ?_); refine goesL_ (some 24) rfl rfl Try.func39 (by kernel_rfl) rfl #[.slice Ao12 l0_4.length co12, .int .i64 t157] rfl (by (try simp only [List.map_toArray, List.map_cons, List.map_nil]); first | done | rfl | (simp only [List.length_drop, List.length_take]; rfl)) ?_; (with_reducible refine (laws_markIntS.calls k (fun k_ => some k_ = (.slice Ao12 l0_4.length co12 : Value).ownBlock) (.slice Ao12 l0_4.length co12) l0_4 t157 t159 t160 w0 _ ?side1 ?side2 A7.out).mono ?_); (case side1 => repeat (first | (with_reducible first | exact HB.out | apply below_alloc | apply pw_below_drewN | apply below_drew1 | refine below_set ?_ GE150.out) | exact HB.out)); (case side2 => exact Kd.R_tight rfl HO0_4.out); rintro e w23 ⟨rfl, hy0, hb, hkp⟩; refine ⟨_, rfl, ?_⟩; have n0_ := Aside0.mk (Kd.R_mono (ok' := fun k_ => ((P0_0_ k_ ∨ P0_1_ k_ ∨ P0_2_ k_ ∨ P0_3_ k_ ∨ P0_4_ k_) ∨ w.heap.size ≤ k_) ∧ some k_ ≠ (.slice Ao9 l0_1.length co9 : Value).ownBlock) (Kd.R_keptB ((Kd.R_apart' HO0_0.out (Kd.R_typed HO0_4.out) (by decide))) hkp (fun k_ hk_ hs_ => (hk_.2) hs_)) (fun k_ hk_ => ⟨hk_.1.1.1, hk_.1.1.2⟩)); have n1_ := Aside0.mk (Kd.R_mono (ok' := fun k_ => ((P0_0_ k_ ∨ P0_1_ k_ ∨ P0_2_ k_ ∨ P0_3_ k_ ∨ P0_4_ k_) ∨ w.heap.size ≤ k_) ∧ some k_ ≠ (.slice Ao8 l0_0.length co8 : Value).ownBlock) (Kd.R_keptB ((Kd.R_apart' HO0_1.out (Kd.R_typed HO0_4.out) (by decide))) hkp (fun k_ hk_ hs_ => (hk_.2) hs_)) (fun k_ hk_ => ⟨hk_.1.1.1, hk_.1.1.2⟩)); have n2_ := Aside0.mk (Kd.R_mono (ok' := fun k_ => ((P0_0_ k_ ∨ P0_1_ k_ ∨ P0_2_ k_ ∨ P0_3_ k_ ∨ P0_4_ k_) ∨ w.heap.size ≤ k_) ∧ some k_ ≠ (.slice Ao11 l0_3.length co11 : Value).ownBlock ∧ some k_ ≠ (.slice Ao12 l0_4.length co12 : Value).ownBlock) (Kd.R_keptB (HO0_2.out) hkp (fun k_ hk_ hs_ => (hk_.2.2) hs_)) (fun k_ hk_ => ⟨hk_.1.1, hk_.1.2.1, hk_.1.2.2⟩)); have n3_ := Aside0.mk (Kd.R_mono (ok' := fun k_ => ((P0_0_ k_ ∨ P0_1_ k_ ∨ P0_2_ k_ ∨ P0_3_ k_ ∨ P0_4_ k_) ∨ w.heap.size ≤ k_) ∧ some k_ ≠ (.slice Ao10 l0_2.length co10 : Value).ownBlock ∧ some k_ ≠ (.slice Ao12 l0_4.length co12 : Value).ownBlock) (Kd.R_keptB (HO0_3.out) hkp (fun k_ hk_ hs_ => (hk_.2.2) hs_)) (fun k_ hk_ => ⟨hk_.1.1, hk_.1.2.1, hk_.1.2.2⟩)); have n4_ := Aside0.mk (Kd.R_reok rfl hy0 (fun k_ e_ => HO0_4.out.1 k_ e_)); have n5_ := Aside0.mk (blk_kept (by (with_reducible repeat (first | refine blk_drewN ?_ _ | refine blk_drew ?_ | refine blk_alloc ?_ _)); exact BK150.out) hkp (fun hs_ => (fun e_ => (Kd.R_ne HO0_4.out BK150.out (by decide)) e_) hs_)); have n6_ := Aside0.mk (Kept.then_ (S := (fun k_ => P0_0_ k_ ∨ P0_1_ k_ ∨ P0_2_ k_ ∨ P0_3_ k_ ∨ P0_4_ k_)) (by repeat (first | (with_reducible first | exact HK.out | apply Kept.alloc | apply Kept.drewN | apply Kept.drew | refine Kept.setCell ?_ (.inr GW150.out) _) | exact HK.out)) hkp (fun k_ hs_ => (fun e_ => (HO0_4.out.1 k_ e_.symm).1) hs_)); have n7_ := Aside0.mk (hb); clear HO0_0; clear HO0_1; clear HO0_2; clear HO0_3; clear HO0_4; clear BK150; clear HK; clear HB; have HO0_0 := n0_; have HO0_1 := n1_; have HO0_2 := n2_; have HO0_3 := n3_; have HO0_4 := n4_; have BK150 := n5_; have HK := n6_; have HB := n7_; clear n0_ n1_ n2_ n3_ n4_ n5_ n6_ n7_; (try clear hb); (try clear hkp); (try clear hy0)))
  go_ret
  exact ⟨by first | rfl | (simp [errW_none, errW_some] <;> rfl) | (simp [*, errW_none, errW_some] <;> rfl), by (with_reducible repeat (first | apply Kd.R_alloc | apply Kd.R_drewN | apply Kd.R_drew)); exact Kd.R_mono HO0_0.out (fun _ hk => hk.1), by (with_reducible repeat (first | apply Kd.R_alloc | apply Kd.R_drewN | apply Kd.R_drew)); exact Kd.R_mono HO0_1.out (fun _ hk => hk.1), by (with_reducible repeat (first | apply Kd.R_alloc | apply Kd.R_drewN | apply Kd.R_drew)); exact Kd.R_mono HO0_2.out (fun _ hk => hk.1), by (with_reducible repeat (first | apply Kd.R_alloc | apply Kd.R_drewN | apply Kd.R_drew)); exact Kd.R_mono HO0_3.out (fun _ hk => hk.1), by (with_reducible repeat (first | apply Kd.R_alloc | apply Kd.R_drewN | apply Kd.R_drew)); exact Kd.R_mono HO0_4.out (fun _ hk => hk.1), by repeat (first | (with_reducible first | exact HB.out | apply below_alloc | apply pw_below_drewN | apply below_drew1 | refine below_set ?_ GE150.out) | exact HB.out), by repeat (first | (with_reducible first | exact HK.out | apply Kept.alloc | apply Kept.drewN | apply Kept.drew | refine Kept.setCell ?_ (.inr GW150.out) _) | exact HK.out)⟩
end Go.Proofs.Ytolmblfffnnabaa.P

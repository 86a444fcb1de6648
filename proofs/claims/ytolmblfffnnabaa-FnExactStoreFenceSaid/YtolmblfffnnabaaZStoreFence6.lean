/- Part 6 of the proof of FnExactStoreFence: words, contracts of callees, plain lemmas. -/
import Derived.Test.YtolmblfffnnabaaZStoreFence5
namespace Go.Proofs.Ytolmblfffnnabaa.P
open Go.RowKit Go.Proofs.YtolmblfffnnabaaW.PrintWords Go.Proofs.YtolmblfffnnabaaW.PrintLast Go.Proofs.YtolmblfffnnabaaW.PrintMore
set_option linter.unusedVariables false
set_option linter.unusedSimpArgs false
set_option maxHeartbeats 8000000 in
set_option maxRecDepth 100000 in
theorem FnExactStoreFence_walk {w : World} {v0 : Value} {s0 : St} (hv0 : StC w v0 s0) (hz0 : Sized s0) (a1 a2 : Int) :
    Calls Try.prog 9 #[v0, .int .i64 a1, .int .i64 a2] w fun e w' => e = .returned (.bool true) ∧ Below w.heap.size w w' := by
  have HV0 := Aside0.mk hv0
  have HZ0 := Aside0.mk hz0
  obtain ⟨A0_0, c0_0, A0_1, c0_1, A0_2, c0_2, A0_3, c0_3, A0_4, c0_4, rfl, _⟩ := hv0
  clear hz0
  obtain ⟨⟨t, q⟩, ht⟩ : ∃ t_, fenceSt s0 a1 a2 = t_ := ⟨_, rfl⟩
  have HT := Aside0.mk ht
  clear ht
  have hu25 := Try.underlying25
  have hu30 := Try.underlying30
  go_enter Try.func9, Try.ntmps9
  go_wp2_with (first | ((with_reducible refine gate_dst (N := 3) rfl ?_); refine ev_box ?hg (N := 3) ?hd (cs := #[.slice A0_0 s0.now.length c0_0, .slice A0_1 s0.sure.length c0_1, .slice A0_2 s0.last.length c0_2, .slice A0_3 s0.slast.length c0_3, .slice A0_4 s0.floors.length c0_4]) (t := 30) ?hr ?_; (case hd => rfl); (case hg => rfl); (case hr => first | (go_simp; done) | (go_simp; rfl)); intro g3 W1 HG4 BK2 HB3) | ((with_reducible refine gate_dst (N := 18) rfl ?_); refine ev_load rfl (N := 18) rfl rfl (g := g3) rfl (cs := #[.slice A0_0 s0.now.length c0_0, .slice A0_1 s0.sure.length c0_1, .slice A0_2 s0.last.length c0_2, .slice A0_3 s0.slast.length c0_3, .slice A0_4 s0.floors.length c0_4]) BK2.out hu30 rfl (by kernel_rfl) ?_))
  refine (szStore_c (StC.below HV0.out HB3.out) HZ0.out (by omega) (by omega)).mono ?_
  rintro e W8 ⟨r5, rfl, _, _, hr6, hb9⟩
  have HB10 := Aside0.mk hb9
  clear hb9
  by_cases hcr5 : r5 < 0
  · have hdr5 : decide (r5 < 0) = true := decide_eq_true hcr5
    go_wp2
    go_ret
    exact ⟨rfl, (below_step HB3.out HB10.out)⟩
  have hdr5 : decide (r5 < 0) = false := decide_eq_false hcr5
  have HS7 := Aside0.mk (hr6 (by omega))
  clear hr6
  go_wp2_with (first | ((with_reducible refine gate_dst (N := 24) rfl ?_); refine ev_load rfl (N := 24) rfl rfl (g := g3) rfl (cs := #[.slice A0_0 s0.now.length c0_0, .slice A0_1 s0.sure.length c0_1, .slice A0_2 s0.last.length c0_2, .slice A0_3 s0.slast.length c0_3, .slice A0_4 s0.floors.length c0_4]) (Bk.below BK2.out HB10.out) hu30 rfl (by kernel_rfl) ?_))
  refine (toStore_c (StC.below HV0.out (below_step HB3.out HB10.out)) HS7.out).mono ?_
  rintro e W14 ⟨u11, rfl, hr12, hb15⟩
  have HB16 := Aside0.mk hb15
  clear hb15
  have HRs13 := Aside0.mk hr12
  obtain ⟨as13_0, ds13_0, as13_1, ds13_1, as13_2, ds13_2, as13_3, ds13_3, as13_4, ds13_4, rfl, _⟩ := hr12.toC
  clear hr12
  go_wp2_with (fail)
  refine (spec_StoreFence_c (StR.toC HRs13.out) HZ0.out HS7.out HT.out).mono ?_
  rintro e W20 ⟨u17, rfl, hr18, hb21⟩
  have HB22 := Aside0.mk hb21
  clear hb21
  have HRs19 := Aside0.mk hr18
  obtain ⟨as19_0, ds19_0, as19_1, ds19_1, as19_2, ds19_2, as19_3, ds19_3, as19_4, ds19_4, rfl, _⟩ := hr18.toC
  clear hr18
  go_wp2_with (first | ((with_reducible refine gate_dst (N := 8) rfl ?_); refine ev_box ?hg (N := 8) ?hd (cs := #[.slice none 0 0, .slice none 0 0, .slice none 0 0, .slice none 0 0, .slice none 0 0]) (t := 25) ?hr ?_; (case hd => rfl); (case hg => rfl); (case hr => first | (go_simp; done) | (go_simp; rfl)); intro g8 W23 HG26 BK24 HB25) | ((with_reducible refine gate_store (t := 25) (p := 8) rfl ?_); refine ev_store rfl rfl rfl (g := g8) rfl (cs := #[.slice as19_0 t.now.length ds19_0, .slice as19_1 t.sure.length ds19_1, .slice as19_2 t.last.length ds19_2, .slice as19_3 t.slast.length ds19_3, .slice as19_4 t.floors.length ds19_4]) rfl BK24.out (by kernel_rfl) rfl rfl ?_; intro W27 BK28 HB29; have HB30 := Aside0.mk (below_new HG26.out HB25.out HB29.out); clear BK24 HB25 HB29) | ((with_reducible refine gate_dst (N := 31) rfl ?_); refine ev_load rfl (N := 31) rfl rfl (g := g3) rfl (cs := #[.slice A0_0 s0.now.length c0_0, .slice A0_1 s0.sure.length c0_1, .slice A0_2 s0.last.length c0_2, .slice A0_3 s0.slast.length c0_3, .slice A0_4 s0.floors.length c0_4]) (Bk.below BK2.out (below_step (below_step (below_step HB10.out HB16.out) HB22.out) HB30.out)) hu30 rfl (by kernel_rfl) ?_))
  refine (toStore_c (StC.below HV0.out (below_step (below_step (below_step (below_step HB3.out HB10.out) HB16.out) HB22.out) HB30.out)) HS7.out).mono ?_
  rintro e W34 ⟨u31, rfl, hr32, hb35⟩
  have HB36 := Aside0.mk hb35
  clear hb35
  have HRs33 := Aside0.mk hr32
  obtain ⟨as33_0, ds33_0, as33_1, ds33_1, as33_2, ds33_2, as33_3, ds33_3, as33_4, ds33_4, rfl, _⟩ := hr32.toC
  clear hr32
  go_wp2_with (first | ((with_reducible refine gate_dst (N := 10) rfl ?_); refine ev_box ?hg (N := 10) ?hd (cs := #[.slice none 0 0, .slice none 0 0, .slice none 0 0, .slice none 0 0, .slice none 0 0]) (t := 25) ?hr ?_; (case hd => rfl); (case hg => rfl); (case hr => first | (go_simp; done) | (go_simp; rfl)); intro g10 W37 HG40 BK38 HB39) | ((with_reducible refine gate_store (t := 25) (p := 10) rfl ?_); refine ev_store rfl rfl rfl (g := g10) rfl (cs := #[.slice as33_0 s0.now.length ds33_0, .slice as33_1 s0.sure.length ds33_1, .slice as33_2 s0.last.length ds33_2, .slice as33_3 s0.slast.length ds33_3, .slice as33_4 s0.floors.length ds33_4]) rfl BK38.out (by kernel_rfl) rfl rfl ?_; intro W41 BK42 HB43; have HB44 := Aside0.mk (below_new HG40.out HB39.out HB43.out); clear BK38 HB39 HB43) | ((with_reducible refine gate_dst (N := 34) rfl ?_); refine ev_load rfl (N := 34) rfl rfl (g := g10) rfl (cs := #[.slice as33_0 s0.now.length ds33_0, .slice as33_1 s0.sure.length ds33_1, .slice as33_2 s0.last.length ds33_2, .slice as33_3 s0.slast.length ds33_3, .slice as33_4 s0.floors.length ds33_4]) BK42.out hu25 rfl (by kernel_rfl) ?_))
  refine (impl_StoreFence_c (StR.toC (StR.below HRs33.out HB44.out)) HZ0.out HS7.out HT.out).mono ?_
  rintro e W48 ⟨u45, rfl, hr46, hb49⟩
  have HB50 := Aside0.mk hb49
  clear hb49
  have HRs47 := Aside0.mk hr46
  obtain ⟨as47_0, ds47_0, as47_1, ds47_1, as47_2, ds47_2, as47_3, ds47_3, as47_4, ds47_4, rfl, _⟩ := hr46.toC
  clear hr46
  go_wp2_with (first | ((with_reducible refine gate_dst (N := 11) rfl ?_); refine ev_box ?hg (N := 11) ?hd (cs := #[.slice none 0 0, .slice none 0 0, .slice none 0 0, .slice none 0 0, .slice none 0 0]) (t := 25) ?hr ?_; (case hd => rfl); (case hg => rfl); (case hr => first | (go_simp; done) | (go_simp; rfl)); intro g11 W51 HG54 BK52 HB53) | ((with_reducible refine gate_store (t := 25) (p := 11) rfl ?_); refine ev_store rfl rfl rfl (g := g11) rfl (cs := #[.slice as47_0 t.now.length ds47_0, .slice as47_1 t.sure.length ds47_1, .slice as47_2 t.last.length ds47_2, .slice as47_3 t.slast.length ds47_3, .slice as47_4 t.floors.length ds47_4]) rfl BK52.out (by kernel_rfl) rfl rfl ?_; intro W55 BK56 HB57; have HB58 := Aside0.mk (below_new HG54.out HB53.out HB57.out); clear BK52 HB53 HB57) | ((with_reducible refine gate_dst (N := 40) rfl ?_); refine ev_load rfl (N := 40) rfl rfl (g := g11) rfl (cs := #[.slice as47_0 t.now.length ds47_0, .slice as47_1 t.sure.length ds47_1, .slice as47_2 t.last.length ds47_2, .slice as47_3 t.slast.length ds47_3, .slice as47_4 t.floors.length ds47_4]) BK56.out hu25 rfl (by kernel_rfl) ?_) | ((with_reducible refine gate_dst (N := 41) rfl ?_); refine ev_load rfl (N := 41) rfl rfl (g := g8) rfl (cs := #[.slice as19_0 t.now.length ds19_0, .slice as19_1 t.sure.length ds19_1, .slice as19_2 t.last.length ds19_2, .slice as19_3 t.slast.length ds19_3, .slice as19_4 t.floors.length ds19_4]) (Bk.below BK28.out (below_step (below_step (below_step HB36.out HB44.out) HB50.out) HB58.out)) hu25 rfl (by kernel_rfl) ?_))
  refine (eqStore_t (StR.toC (StR.below HRs47.out HB58.out)) (StR.toC (StR.below HRs19.out (below_step (below_step (below_step (below_step HB30.out HB36.out) HB44.out) HB50.out) HB58.out)))).mono ?_
  rintro e W59 ⟨rfl, hb60⟩
  have HB61 := Aside0.mk hb60
  clear hb60
  go_wp2_with (fail)
  refine start_ (n := 5) (S := fun w' => Bk w' g10 #[.slice as33_0 s0.now.length ds33_0, .slice as33_1 s0.sure.length ds33_1, .slice as33_2 s0.last.length ds33_2, .slice as33_3 s0.slast.length ds33_3, .slice as33_4 s0.floors.length ds33_4] 25 ∧ Bk w' g3 #[.slice A0_0 s0.now.length c0_0, .slice A0_1 s0.sure.length c0_1, .slice A0_2 s0.last.length c0_2, .slice A0_3 s0.slast.length c0_3, .slice A0_4 s0.floors.length c0_4] 30) (ds := []) #[false, false, false, false, false] (by kernel_rfl) rfl rfl ⟨(show Bk W59 g10 #[.slice as33_0 s0.now.length ds33_0, .slice as33_1 s0.sure.length ds33_1, .slice as33_2 s0.last.length ds33_2, .slice as33_3 s0.slast.length ds33_3, .slice as33_4 s0.floors.length ds33_4] 25 from (Bk.below BK42.out (below_step (below_step HB50.out HB58.out) HB61.out))), (show Bk W59 g3 #[.slice A0_0 s0.now.length c0_0, .slice A0_1 s0.sure.length c0_1, .slice A0_2 s0.last.length c0_2, .slice A0_3 s0.slast.length c0_3, .slice A0_4 s0.floors.length c0_4] 30 from (Bk.below BK2.out (below_step (below_step (below_step (below_step (below_step (below_step (below_step (below_step HB10.out HB16.out) HB22.out) HB30.out) HB36.out) HB44.out) HB50.out) HB58.out) HB61.out)))⟩ (fun hHeld => ?_)
  clear hHeld
  refine world_at (w := W59) (below_drew0 _) (fun W62 HB63 => ?_)
  refine take_ (i := 0) (N := some 49) (v := .agg #[.slice as33_0 s0.now.length ds33_0, .slice as33_1 s0.sure.length ds33_1, .slice as33_2 s0.last.length ds33_2, .slice as33_3 s0.slast.length ds33_3, .slice as33_4 s0.floors.length ds33_4]) (a' := ?_) #[true, false, false, false, false] rfl rfl (by kernel_rfl) (fun _ _ _ h => h) (Or.inl ⟨by rfl, ?_⟩) ⟨(Bk.below BK42.out (below_step (below_step (below_step HB50.out HB58.out) HB61.out) HB63.out)), (Bk.below BK2.out (below_step (below_step (below_step (below_step (below_step (below_step (below_step (below_step (below_step HB10.out HB16.out) HB22.out) HB30.out) HB36.out) HB44.out) HB50.out) HB58.out) HB61.out) HB63.out))⟩ ?_ ?_
  · rintro w' ⟨s0_, s1_⟩
    exact run_load_ev rfl rfl s0_ hu25 rfl (by kernel_rfl)
  rotate_left
  · simp only [Act.put, List.setIfInBounds_toArray, List.set_cons_zero, List.set_cons_succ, i64_w, i32_w]
    rfl
  refine take_ (i := 1) (N := some 50) (v := .agg #[.slice A0_0 s0.now.length c0_0, .slice A0_1 s0.sure.length c0_1, .slice A0_2 s0.last.length c0_2, .slice A0_3 s0.slast.length c0_3, .slice A0_4 s0.floors.length c0_4]) (a' := ?_) #[true, true, false, false, false] rfl rfl (by kernel_rfl) (fun _ _ _ h => h) (Or.inl ⟨by rfl, ?_⟩) ⟨(Bk.below BK42.out (below_step (below_step (below_step HB50.out HB58.out) HB61.out) HB63.out)), (Bk.below BK2.out (below_step (below_step (below_step (below_step (below_step (below_step (below_step (below_step (below_step HB10.out HB16.out) HB22.out) HB30.out) HB36.out) HB44.out) HB50.out) HB58.out) HB61.out) HB63.out))⟩ ?_ ?_
  · rintro w' ⟨s0_, s1_⟩
    exact run_load_ev rfl rfl s1_ hu30 rfl (by kernel_rfl)
  rotate_left
  · simp only [Act.put, List.setIfInBounds_toArray, List.set_cons_zero, List.set_cons_succ, i64_w, i32_w]
    rfl
  refine one_ (i := 2) (N := some 51) #[true, true, true, false, false] rfl rfl (by kernel_rfl) (by decide) (fun K hK => ?_)
  refine goes_ Try.func19 (by kernel_rfl) rfl #[.agg #[.slice A0_0 s0.now.length c0_0, .slice A0_1 s0.sure.length c0_1, .slice A0_2 s0.last.length c0_2, .slice A0_3 s0.slast.length c0_3, .slice A0_4 s0.floors.length c0_4]] (by rfl) rfl rfl (by (try simp only [List.map_toArray, List.map_cons, List.map_nil]); first | done | rfl) ?_
  refine (toStore_c (StC.below HV0.out (below_step (below_step (below_step (below_step (below_step (below_step (below_step (below_step (below_step (below_step HB3.out HB10.out) HB16.out) HB22.out) HB30.out) HB36.out) HB44.out) HB50.out) HB58.out) HB61.out) HB63.out)) HS7.out).mono ?_
  rintro e W67 ⟨u64, rfl, hr65, hb68⟩
  have HB69 := Aside0.mk hb68
  clear hb68
  have HRs66 := Aside0.mk hr65
  obtain ⟨as66_0, ds66_0, as66_1, ds66_1, as66_2, ds66_2, as66_3, ds66_3, as66_4, ds66_4, rfl, _⟩ := hr65.toC
  clear hr65
  refine ⟨_, rfl, ?_⟩
  refine hK.out _ _ ⟨(Bk.below BK42.out (below_step (below_step (below_step (below_step HB50.out HB58.out) HB61.out) HB63.out) HB69.out)), (Bk.below BK2.out (below_step (below_step (below_step (below_step (below_step (below_step (below_step (below_step (below_step (below_step HB10.out HB16.out) HB22.out) HB30.out) HB36.out) HB44.out) HB50.out) HB58.out) HB61.out) HB63.out) HB69.out))⟩ (fun hHeld => ?_)
  clear hHeld hK K
  refine norm_ (a' := ?_) ?_ ?_
  rotate_left
  · show Act.put _ (some 51) _ = _
    simp only [Act.put, List.setIfInBounds_toArray, List.set_cons_zero, List.set_cons_succ, i64_w, i32_w]
    rfl
  refine one_ (i := 3) (N := some 52) #[true, true, true, true, false] rfl rfl (by kernel_rfl) (by decide) (fun K hK => ?_)
  refine goes_ Try.func14 (by kernel_rfl) rfl #[.agg #[.slice as33_0 s0.now.length ds33_0, .slice as33_1 s0.sure.length ds33_1, .slice as33_2 s0.last.length ds33_2, .slice as33_3 s0.slast.length ds33_3, .slice as33_4 s0.floors.length ds33_4], .agg #[.slice as66_0 s0.now.length ds66_0, .slice as66_1 s0.sure.length ds66_1, .slice as66_2 s0.last.length ds66_2, .slice as66_3 s0.slast.length ds66_3, .slice as66_4 s0.floors.length ds66_4]] (by rfl) rfl rfl (by (try simp only [List.map_toArray, List.map_cons, List.map_nil]); first | done | rfl) ?_
  refine (eqStore_t (StR.toC (StR.below HRs33.out (below_step (below_step (below_step (below_step (below_step HB44.out HB50.out) HB58.out) HB61.out) HB63.out) HB69.out))) (StR.toC HRs66.out)).mono ?_
  rintro e W70 ⟨rfl, hb71⟩
  have HB72 := Aside0.mk hb71
  clear hb71
  refine ⟨_, rfl, ?_⟩
  refine hK.out _ _ ⟨(Bk.below BK42.out (below_step (below_step (below_step (below_step (below_step HB50.out HB58.out) HB61.out) HB63.out) HB69.out) HB72.out)), (Bk.below BK2.out (below_step (below_step (below_step (below_step (below_step (below_step (below_step (below_step (below_step (below_step (below_step HB10.out HB16.out) HB22.out) HB30.out) HB36.out) HB44.out) HB50.out) HB58.out) HB61.out) HB63.out) HB69.out) HB72.out))⟩ (fun hHeld => ?_)
  clear hHeld hK K
  refine norm_ (a' := ?_) ?_ ?_
  rotate_left
  · show Act.put _ (some 52) _ = _
    simp only [Act.put, List.setIfInBounds_toArray, List.set_cons_zero, List.set_cons_succ, i64_w, i32_w]
    rfl
  refine pure_ (i := 4) (N := some 53) (v := ?_) (a' := ?_) #[true, true, true, true, true] rfl rfl (by kernel_rfl) (fun _ _ _ h => h) (Or.inl ⟨by rfl, ?_⟩) ?_ ?_
  rotate_left
  · intro w'
    go_simp
    with_reducible rfl
  rotate_left
  · simp only [Act.put, List.setIfInBounds_toArray, List.set_cons_zero, List.set_cons_succ, i64_w, i32_w]
    rfl
  refine done_ (by kernel_rfl) ?_
  go_wp2_with (first | ((with_reducible refine gate_dst (N := 54) rfl ?_); refine ev_load rfl (N := 54) rfl rfl (g := g10) rfl (cs := #[.slice as33_0 s0.now.length ds33_0, .slice as33_1 s0.sure.length ds33_1, .slice as33_2 s0.last.length ds33_2, .slice as33_3 s0.slast.length ds33_3, .slice as33_4 s0.floors.length ds33_4]) (Bk.below BK42.out (below_step (below_step (below_step (below_step (below_step HB50.out HB58.out) HB61.out) HB63.out) HB69.out) HB72.out)) hu25 rfl (by kernel_rfl) ?_))
  obtain ⟨r73, hr73⟩ : ∃ r_ : Int, 1 + (stCount s0 : Int) = r_ := ⟨_, rfl⟩
  have hdr73 : decide (r73 < 0) = false := decide_eq_false (by omega)
  have HCr73 := Aside0.mk hr73
  clear hr73
  refine (markStore_q (w0 := w) (below_step (below_step (below_step (below_step (below_step (below_step (below_step (below_step (below_step (below_step (below_step (below_step HB3.out HB10.out) HB16.out) HB22.out) HB30.out) HB36.out) HB44.out) HB50.out) HB58.out) HB61.out) HB63.out) HB69.out) HB72.out) (StR.below HRs33.out (below_step (below_step (below_step (below_step (below_step (below_step HB44.out HB50.out) HB58.out) HB61.out) HB63.out) HB69.out) HB72.out)) (by have z0_ := HB3.out.size; have z1_ := HG4.out; have z2_ := BK2.out.lt; have z3_ := HB10.out.size; have z4_ := HB16.out.size; have z5_ := HB22.out.size; have z6_ := HB30.out.size; have z7_ := HG26.out; have z8_ := BK28.out.lt; have z9_ := HB36.out.size; have z10_ := HB44.out.size; have z11_ := HG40.out; have z12_ := BK42.out.lt; have z13_ := HB50.out.size; have z14_ := HB58.out.size; have z15_ := HG54.out; have z16_ := BK56.out.lt; have z17_ := HB61.out.size; have z18_ := HB63.out.size; have z19_ := HB69.out.size; have z20_ := HB72.out.size; omega) HS7.out HCr73.out).mono ?_
  rintro e W76 ⟨rfl, hm74, hb77, hk75⟩
  have HB79 := Aside0.mk (hb77)
  have HK80 := Aside0.mk (hk75)
  have F81 := Aside0.mk (StC.below HV0.out HB79.out)
  have F82 := Aside0.mk (Bk.kept (Bk.below BK2.out (below_step (below_step (below_step (below_step (below_step (below_step (below_step (below_step (below_step (below_step (below_step HB10.out HB16.out) HB22.out) HB30.out) HB36.out) HB44.out) HB50.out) HB58.out) HB61.out) HB63.out) HB69.out) HB72.out)) HK80.out (fun h_ => (by obtain ⟨h1_, h2_⟩ := h_; have z0_ := HB3.out.size; have z1_ := HG4.out; have z2_ := BK2.out.lt; have z3_ := HB10.out.size; have z4_ := HB16.out.size; have z5_ := HB22.out.size; have z6_ := HB30.out.size; have z7_ := HG26.out; have z8_ := BK28.out.lt; have z9_ := HB36.out.size; have z10_ := HB44.out.size; have z11_ := HG40.out; have z12_ := BK42.out.lt; have z13_ := HB50.out.size; have z14_ := HB58.out.size; have z15_ := HG54.out; have z16_ := BK56.out.lt; have z17_ := HB61.out.size; have z18_ := HB63.out.size; have z19_ := HB69.out.size; have z20_ := HB72.out.size; omega)))
  have F83 := Aside0.mk (StR.kept (StR.below HRs13.out (below_step (below_step (below_step (below_step (below_step (below_step (below_step (below_step (below_step HB22.out HB30.out) HB36.out) HB44.out) HB50.out) HB58.out) HB61.out) HB63.out) HB69.out) HB72.out)) HK80.out (fun k_ h_ => (by obtain ⟨h1_, h2_⟩ := h_; have z0_ := HB3.out.size; have z1_ := HG4.out; have z2_ := BK2.out.lt; have z3_ := HB10.out.size; have z4_ := HB16.out.size; have z5_ := HB22.out.size; have z6_ := HB30.out.size; have z7_ := HG26.out; have z8_ := BK28.out.lt; have z9_ := HB36.out.size; have z10_ := HB44.out.size; have z11_ := HG40.out; have z12_ := BK42.out.lt; have z13_ := HB50.out.size; have z14_ := HB58.out.size; have z15_ := HG54.out; have z16_ := BK56.out.lt; have z17_ := HB61.out.size; have z18_ := HB63.out.size; have z19_ := HB69.out.size; have z20_ := HB72.out.size; omega)))
  have F84 := Aside0.mk (StR.kept (StR.below HRs19.out (below_step (below_step (below_step (below_step (below_step (below_step (below_step (below_step HB30.out HB36.out) HB44.out) HB50.out) HB58.out) HB61.out) HB63.out) HB69.out) HB72.out)) HK80.out (fun k_ h_ => (by obtain ⟨h1_, h2_⟩ := h_; have z0_ := HB3.out.size; have z1_ := HG4.out; have z2_ := BK2.out.lt; have z3_ := HB10.out.size; have z4_ := HB16.out.size; have z5_ := HB22.out.size; have z6_ := HB30.out.size; have z7_ := HG26.out; have z8_ := BK28.out.lt; have z9_ := HB36.out.size; have z10_ := HB44.out.size; have z11_ := HG40.out; have z12_ := BK42.out.lt; have z13_ := HB50.out.size; have z14_ := HB58.out.size; have z15_ := HG54.out; have z16_ := BK56.out.lt; have z17_ := HB61.out.size; have z18_ := HB63.out.size; have z19_ := HB69.out.size; have z20_ := HB72.out.size; omega)))
  have F85 := Aside0.mk (Bk.kept (Bk.below BK28.out (below_step (below_step (below_step (below_step (below_step (below_step (below_step HB36.out HB44.out) HB50.out) HB58.out) HB61.out) HB63.out) HB69.out) HB72.out)) HK80.out (fun h_ => (by obtain ⟨h1_, h2_⟩ := h_; have z0_ := HB3.out.size; have z1_ := HG4.out; have z2_ := BK2.out.lt; have z3_ := HB10.out.size; have z4_ := HB16.out.size; have z5_ := HB22.out.size; have z6_ := HB30.out.size; have z7_ := HG26.out; have z8_ := BK28.out.lt; have z9_ := HB36.out.size; have z10_ := HB44.out.size; have z11_ := HG40.out; have z12_ := BK42.out.lt; have z13_ := HB50.out.size; have z14_ := HB58.out.size; have z15_ := HG54.out; have z16_ := BK56.out.lt; have z17_ := HB61.out.size; have z18_ := HB63.out.size; have z19_ := HB69.out.size; have z20_ := HB72.out.size; omega)))
  have F86 := Aside0.mk (hm74)
  have F87 := Aside0.mk (Bk.kept (Bk.below BK42.out (below_step (below_step (below_step (below_step (below_step HB50.out HB58.out) HB61.out) HB63.out) HB69.out) HB72.out)) HK80.out (fun h_ => (by obtain ⟨h1_, h2_⟩ := h_; have z0_ := HB3.out.size; have z1_ := HG4.out; have z2_ := BK2.out.lt; have z3_ := HB10.out.size; have z4_ := HB16.out.size; have z5_ := HB22.out.size; have z6_ := HB30.out.size; have z7_ := HG26.out; have z8_ := BK28.out.lt; have z9_ := HB36.out.size; have z10_ := HB44.out.size; have z11_ := HG40.out; have z12_ := BK42.out.lt; have z13_ := HB50.out.size; have z14_ := HB58.out.size; have z15_ := HG54.out; have z16_ := BK56.out.lt; have z17_ := HB61.out.size; have z18_ := HB63.out.size; have z19_ := HB69.out.size; have z20_ := HB72.out.size; omega)))
  have F88 := Aside0.mk (StR.kept (StR.below HRs47.out (below_step (below_step (below_step (below_step HB58.out HB61.out) HB63.out) HB69.out) HB72.out)) HK80.out (fun k_ h_ => (by obtain ⟨h1_, h2_⟩ := h_; have z0_ := HB3.out.size; have z1_ := HG4.out; have z2_ := BK2.out.lt; have z3_ := HB10.out.size; have z4_ := HB16.out.size; have z5_ := HB22.out.size; have z6_ := HB30.out.size; have z7_ := HG26.out; have z8_ := BK28.out.lt; have z9_ := HB36.out.size; have z10_ := HB44.out.size; have z11_ := HG40.out; have z12_ := BK42.out.lt; have z13_ := HB50.out.size; have z14_ := HB58.out.size; have z15_ := HG54.out; have z16_ := BK56.out.lt; have z17_ := HB61.out.size; have z18_ := HB63.out.size; have z19_ := HB69.out.size; have z20_ := HB72.out.size; omega)))
  have F89 := Aside0.mk (Bk.kept (Bk.below BK56.out (below_step (below_step (below_step HB61.out HB63.out) HB69.out) HB72.out)) HK80.out (fun h_ => (by obtain ⟨h1_, h2_⟩ := h_; have z0_ := HB3.out.size; have z1_ := HG4.out; have z2_ := BK2.out.lt; have z3_ := HB10.out.size; have z4_ := HB16.out.size; have z5_ := HB22.out.size; have z6_ := HB30.out.size; have z7_ := HG26.out; have z8_ := BK28.out.lt; have z9_ := HB36.out.size; have z10_ := HB44.out.size; have z11_ := HG40.out; have z12_ := BK42.out.lt; have z13_ := HB50.out.size; have z14_ := HB58.out.size; have z15_ := HG54.out; have z16_ := BK56.out.lt; have z17_ := HB61.out.size; have z18_ := HB63.out.size; have z19_ := HB69.out.size; have z20_ := HB72.out.size; omega)))
  have F90 := Aside0.mk (StR.kept (StR.below HRs66.out HB72.out) HK80.out (fun k_ h_ => (by obtain ⟨h1_, h2_⟩ := h_; have z0_ := HB3.out.size; have z1_ := HG4.out; have z2_ := BK2.out.lt; have z3_ := HB10.out.size; have z4_ := HB16.out.size; have z5_ := HB22.out.size; have z6_ := HB30.out.size; have z7_ := HG26.out; have z8_ := BK28.out.lt; have z9_ := HB36.out.size; have z10_ := HB44.out.size; have z11_ := HG40.out; have z12_ := BK42.out.lt; have z13_ := HB50.out.size; have z14_ := HB58.out.size; have z15_ := HG54.out; have z16_ := BK56.out.lt; have z17_ := HB61.out.size; have z18_ := HB63.out.size; have z19_ := HB69.out.size; have z20_ := HB72.out.size; omega)))
  clear hb77 hk75
  clear hm74
  go_wp2_with (first | ((with_reducible refine gate_dst (N := 60) rfl ?_); refine ev_load_on (by rfl) (N := 60) rfl rfl (g := g11) rfl (cs := #[.slice as47_0 t.now.length ds47_0, .slice as47_1 t.sure.length ds47_1, .slice as47_2 t.last.length ds47_2, .slice as47_3 t.slast.length ds47_3, .slice as47_4 t.floors.length ds47_4]) F89.out hu25 rfl (by kernel_rfl) ?_) | ((with_reducible refine gate_dst (N := 61) rfl ?_); refine ev_load_on (by rfl) (N := 61) rfl rfl (g := g8) rfl (cs := #[.slice as19_0 t.now.length ds19_0, .slice as19_1 t.sure.length ds19_1, .slice as19_2 t.last.length ds19_2, .slice as19_3 t.slast.length ds19_3, .slice as19_4 t.floors.length ds19_4]) F85.out hu25 rfl (by kernel_rfl) ?_))
  refine (eqStore_t (StR.toC F88.out) (StR.toC F84.out)).mono ?_
  rintro e W91 ⟨rfl, hb92⟩
  have HB93 := Aside0.mk hb92
  clear hb92
  go_wp2_with (first | ((with_reducible refine gate_dst (N := 70) rfl ?_); refine ev_load rfl (N := 70) rfl rfl (g := g11) rfl (cs := #[.slice as47_0 t.now.length ds47_0, .slice as47_1 t.sure.length ds47_1, .slice as47_2 t.last.length ds47_2, .slice as47_3 t.slast.length ds47_3, .slice as47_4 t.floors.length ds47_4]) (Bk.below F89.out HB93.out) hu25 rfl (by kernel_rfl) ?_))
  obtain ⟨r94, hr94⟩ : ∃ r_ : Int, 1 + (stCount t : Int) = r_ := ⟨_, rfl⟩
  have hdr94 : decide (r94 < 0) = false := decide_eq_false (by omega)
  have HCr94 := Aside0.mk hr94
  clear hr94
  refine (markStore_q (w0 := w) (below_step HB79.out HB93.out) (StR.below F88.out HB93.out) (by have z0_ := HB3.out.size; have z1_ := HG4.out; have z2_ := BK2.out.lt; have z3_ := HB10.out.size; have z4_ := HB16.out.size; have z5_ := HB22.out.size; have z6_ := HB30.out.size; have z7_ := HG26.out; have z8_ := BK28.out.lt; have z9_ := HB36.out.size; have z10_ := HB44.out.size; have z11_ := HG40.out; have z12_ := BK42.out.lt; have z13_ := HB50.out.size; have z14_ := HB58.out.size; have z15_ := HG54.out; have z16_ := BK56.out.lt; have z17_ := HB61.out.size; have z18_ := HB63.out.size; have z19_ := HB69.out.size; have z20_ := HB72.out.size; have z21_ := HB79.out.size; have z22_ := HK80.out.1; have z23_ := HB93.out.size; omega) (fenceSt_small HT.out HS7.out) HCr94.out).mono ?_
  rintro e W97 ⟨rfl, hm95, hb98, hk96⟩
  have HB100 := Aside0.mk (hb98)
  have HK101 := Aside0.mk (hk96)
  have F102 := Aside0.mk (StC.below HV0.out HB100.out)
  have F103 := Aside0.mk (Bk.kept (Bk.below F82.out HB93.out) HK101.out (fun h_ => (by obtain ⟨h1_, h2_⟩ := h_; have z0_ := HB3.out.size; have z1_ := HG4.out; have z2_ := BK2.out.lt; have z3_ := HB10.out.size; have z4_ := HB16.out.size; have z5_ := HB22.out.size; have z6_ := HB30.out.size; have z7_ := HG26.out; have z8_ := BK28.out.lt; have z9_ := HB36.out.size; have z10_ := HB44.out.size; have z11_ := HG40.out; have z12_ := BK42.out.lt; have z13_ := HB50.out.size; have z14_ := HB58.out.size; have z15_ := HG54.out; have z16_ := BK56.out.lt; have z17_ := HB61.out.size; have z18_ := HB63.out.size; have z19_ := HB69.out.size; have z20_ := HB72.out.size; have z21_ := HB79.out.size; have z22_ := HK80.out.1; have z23_ := HB93.out.size; omega)))
  have F104 := Aside0.mk (StR.kept (StR.below F83.out HB93.out) HK101.out (fun k_ h_ => (by obtain ⟨h1_, h2_⟩ := h_; have z0_ := HB3.out.size; have z1_ := HG4.out; have z2_ := BK2.out.lt; have z3_ := HB10.out.size; have z4_ := HB16.out.size; have z5_ := HB22.out.size; have z6_ := HB30.out.size; have z7_ := HG26.out; have z8_ := BK28.out.lt; have z9_ := HB36.out.size; have z10_ := HB44.out.size; have z11_ := HG40.out; have z12_ := BK42.out.lt; have z13_ := HB50.out.size; have z14_ := HB58.out.size; have z15_ := HG54.out; have z16_ := BK56.out.lt; have z17_ := HB61.out.size; have z18_ := HB63.out.size; have z19_ := HB69.out.size; have z20_ := HB72.out.size; have z21_ := HB79.out.size; have z22_ := HK80.out.1; have z23_ := HB93.out.size; omega)))
  have F105 := Aside0.mk (StR.kept (StR.below F84.out HB93.out) HK101.out (fun k_ h_ => (by obtain ⟨h1_, h2_⟩ := h_; have z0_ := HB3.out.size; have z1_ := HG4.out; have z2_ := BK2.out.lt; have z3_ := HB10.out.size; have z4_ := HB16.out.size; have z5_ := HB22.out.size; have z6_ := HB30.out.size; have z7_ := HG26.out; have z8_ := BK28.out.lt; have z9_ := HB36.out.size; have z10_ := HB44.out.size; have z11_ := HG40.out; have z12_ := BK42.out.lt; have z13_ := HB50.out.size; have z14_ := HB58.out.size; have z15_ := HG54.out; have z16_ := BK56.out.lt; have z17_ := HB61.out.size; have z18_ := HB63.out.size; have z19_ := HB69.out.size; have z20_ := HB72.out.size; have z21_ := HB79.out.size; have z22_ := HK80.out.1; have z23_ := HB93.out.size; omega)))
  have F106 := Aside0.mk (Bk.kept (Bk.below F85.out HB93.out) HK101.out (fun h_ => (by obtain ⟨h1_, h2_⟩ := h_; have z0_ := HB3.out.size; have z1_ := HG4.out; have z2_ := BK2.out.lt; have z3_ := HB10.out.size; have z4_ := HB16.out.size; have z5_ := HB22.out.size; have z6_ := HB30.out.size; have z7_ := HG26.out; have z8_ := BK28.out.lt; have z9_ := HB36.out.size; have z10_ := HB44.out.size; have z11_ := HG40.out; have z12_ := BK42.out.lt; have z13_ := HB50.out.size; have z14_ := HB58.out.size; have z15_ := HG54.out; have z16_ := BK56.out.lt; have z17_ := HB61.out.size; have z18_ := HB63.out.size; have z19_ := HB69.out.size; have z20_ := HB72.out.size; have z21_ := HB79.out.size; have z22_ := HK80.out.1; have z23_ := HB93.out.size; omega)))
  have F107 := Aside0.mk (StR.kept (StR.below F86.out HB93.out) HK101.out (fun k_ h_ => (by obtain ⟨h1_, h2_⟩ := h_; have z0_ := HB3.out.size; have z1_ := HG4.out; have z2_ := BK2.out.lt; have z3_ := HB10.out.size; have z4_ := HB16.out.size; have z5_ := HB22.out.size; have z6_ := HB30.out.size; have z7_ := HG26.out; have z8_ := BK28.out.lt; have z9_ := HB36.out.size; have z10_ := HB44.out.size; have z11_ := HG40.out; have z12_ := BK42.out.lt; have z13_ := HB50.out.size; have z14_ := HB58.out.size; have z15_ := HG54.out; have z16_ := BK56.out.lt; have z17_ := HB61.out.size; have z18_ := HB63.out.size; have z19_ := HB69.out.size; have z20_ := HB72.out.size; have z21_ := HB79.out.size; have z22_ := HK80.out.1; have z23_ := HB93.out.size; omega)))
  have F108 := Aside0.mk (Bk.kept (Bk.below F87.out HB93.out) HK101.out (fun h_ => (by obtain ⟨h1_, h2_⟩ := h_; have z0_ := HB3.out.size; have z1_ := HG4.out; have z2_ := BK2.out.lt; have z3_ := HB10.out.size; have z4_ := HB16.out.size; have z5_ := HB22.out.size; have z6_ := HB30.out.size; have z7_ := HG26.out; have z8_ := BK28.out.lt; have z9_ := HB36.out.size; have z10_ := HB44.out.size; have z11_ := HG40.out; have z12_ := BK42.out.lt; have z13_ := HB50.out.size; have z14_ := HB58.out.size; have z15_ := HG54.out; have z16_ := BK56.out.lt; have z17_ := HB61.out.size; have z18_ := HB63.out.size; have z19_ := HB69.out.size; have z20_ := HB72.out.size; have z21_ := HB79.out.size; have z22_ := HK80.out.1; have z23_ := HB93.out.size; omega)))
  have F109 := Aside0.mk (hm95)
  have F110 := Aside0.mk (Bk.kept (Bk.below F89.out HB93.out) HK101.out (fun h_ => (by obtain ⟨h1_, h2_⟩ := h_; have z0_ := HB3.out.size; have z1_ := HG4.out; have z2_ := BK2.out.lt; have z3_ := HB10.out.size; have z4_ := HB16.out.size; have z5_ := HB22.out.size; have z6_ := HB30.out.size; have z7_ := HG26.out; have z8_ := BK28.out.lt; have z9_ := HB36.out.size; have z10_ := HB44.out.size; have z11_ := HG40.out; have z12_ := BK42.out.lt; have z13_ := HB50.out.size; have z14_ := HB58.out.size; have z15_ := HG54.out; have z16_ := BK56.out.lt; have z17_ := HB61.out.size; have z18_ := HB63.out.size; have z19_ := HB69.out.size; have z20_ := HB72.out.size; have z21_ := HB79.out.size; have z22_ := HK80.out.1; have z23_ := HB93.out.size; omega)))
  have F111 := Aside0.mk (StR.kept (StR.below F90.out HB93.out) HK101.out (fun k_ h_ => (by obtain ⟨h1_, h2_⟩ := h_; have z0_ := HB3.out.size; have z1_ := HG4.out; have z2_ := BK2.out.lt; have z3_ := HB10.out.size; have z4_ := HB16.out.size; have z5_ := HB22.out.size; have z6_ := HB30.out.size; have z7_ := HG26.out; have z8_ := BK28.out.lt; have z9_ := HB36.out.size; have z10_ := HB44.out.size; have z11_ := HG40.out; have z12_ := BK42.out.lt; have z13_ := HB50.out.size; have z14_ := HB58.out.size; have z15_ := HG54.out; have z16_ := BK56.out.lt; have z17_ := HB61.out.size; have z18_ := HB63.out.size; have z19_ := HB69.out.size; have z20_ := HB72.out.size; have z21_ := HB79.out.size; have z22_ := HK80.out.1; have z23_ := HB93.out.size; omega)))
  clear hb98 hk96
  clear hm95
  go_wp2_with (first | ((with_reducible refine gate_dst (N := 73) rfl ?_); refine ev_load rfl (N := 73) rfl rfl (g := g11) rfl (cs := #[.slice as47_0 t.now.length ds47_0, .slice as47_1 t.sure.length ds47_1, .slice as47_2 t.last.length ds47_2, .slice as47_3 t.slast.length ds47_3, .slice as47_4 t.floors.length ds47_4]) F110.out hu25 rfl (by kernel_rfl) ?_))
  refine (heldStore_q (StR.toC F109.out) (fenceSt_small HT.out HS7.out) HCr94.out).mono ?_
  rintro e W112 ⟨rfl, hb113⟩
  have HB114 := Aside0.mk hb113
  clear hb113
  go_wp2_with (first | ((with_reducible refine gate_dst (N := 82) rfl ?_); refine ev_load rfl (N := 82) rfl rfl (g := g3) rfl (cs := #[.slice A0_0 s0.now.length c0_0, .slice A0_1 s0.sure.length c0_1, .slice A0_2 s0.last.length c0_2, .slice A0_3 s0.slast.length c0_3, .slice A0_4 s0.floors.length c0_4]) (Bk.below F103.out HB114.out) hu30 rfl (by kernel_rfl) ?_))
  refine (toStore_c (StC.below F102.out HB114.out) HS7.out).mono ?_
  rintro e W118 ⟨u115, rfl, hr116, hb119⟩
  have HB120 := Aside0.mk hb119
  clear hb119
  have HRs117 := Aside0.mk hr116
  obtain ⟨as117_0, ds117_0, as117_1, ds117_1, as117_2, ds117_2, as117_3, ds117_3, as117_4, ds117_4, rfl, _⟩ := hr116.toC
  clear hr116
  go_wp2_with (fail)
  refine (impl_StoreFence_c (StR.toC HRs117.out) HZ0.out HS7.out HT.out).mono ?_
  rintro e W124 ⟨u121, rfl, hr122, hb125⟩
  have HB126 := Aside0.mk hb125
  clear hb125
  have HRs123 := Aside0.mk hr122
  obtain ⟨as123_0, ds123_0, as123_1, ds123_1, as123_2, ds123_2, as123_3, ds123_3, as123_4, ds123_4, rfl, _⟩ := hr122.toC
  clear hr122
  go_wp2_with (first | ((with_reducible refine gate_dst (N := 16) rfl ?_); refine ev_box ?hg (N := 16) ?hd (cs := #[.slice none 0 0, .slice none 0 0, .slice none 0 0, .slice none 0 0, .slice none 0 0]) (t := 25) ?hr ?_; (case hd => rfl); (case hg => rfl); (case hr => first | (go_simp; done) | (go_simp; rfl)); intro g16 W127 HG130 BK128 HB129) | ((with_reducible refine gate_store (t := 25) (p := 16) rfl ?_); refine ev_store rfl rfl rfl (g := g16) rfl (cs := #[.slice as123_0 t.now.length ds123_0, .slice as123_1 t.sure.length ds123_1, .slice as123_2 t.last.length ds123_2, .slice as123_3 t.slast.length ds123_3, .slice as123_4 t.floors.length ds123_4]) rfl BK128.out (by kernel_rfl) rfl rfl ?_; intro W131 BK132 HB133; have HB134 := Aside0.mk (below_new HG130.out HB129.out HB133.out); clear BK128 HB129 HB133) | ((with_reducible refine gate_dst (N := 89) rfl ?_); refine ev_load rfl (N := 89) rfl rfl (g := g16) rfl (cs := #[.slice as123_0 t.now.length ds123_0, .slice as123_1 t.sure.length ds123_1, .slice as123_2 t.last.length ds123_2, .slice as123_3 t.slast.length ds123_3, .slice as123_4 t.floors.length ds123_4]) BK132.out hu25 rfl (by kernel_rfl) ?_) | ((with_reducible refine gate_dst (N := 90) rfl ?_); refine ev_load rfl (N := 90) rfl rfl (g := g8) rfl (cs := #[.slice as19_0 t.now.length ds19_0, .slice as19_1 t.sure.length ds19_1, .slice as19_2 t.last.length ds19_2, .slice as19_3 t.slast.length ds19_3, .slice as19_4 t.floors.length ds19_4]) (Bk.below F106.out (below_step (below_step (below_step HB114.out HB120.out) HB126.out) HB134.out)) hu25 rfl (by kernel_rfl) ?_))
  refine (eqStore_t (StR.toC (StR.below HRs123.out HB134.out)) (StR.toC (StR.below F105.out (below_step (below_step (below_step HB114.out HB120.out) HB126.out) HB134.out)))).mono ?_
  rintro e W135 ⟨rfl, hb136⟩
  have HB137 := Aside0.mk hb136
  clear hb136
  go_wp2_with (first | ((with_reducible refine gate_dst (N := 98) rfl ?_); refine ev_load rfl (N := 98) rfl rfl (g := g11) rfl (cs := #[.slice as47_0 t.now.length ds47_0, .slice as47_1 t.sure.length ds47_1, .slice as47_2 t.last.length ds47_2, .slice as47_3 t.slast.length ds47_3, .slice as47_4 t.floors.length ds47_4]) (Bk.below F110.out (below_step (below_step (below_step (below_step HB114.out HB120.out) HB126.out) HB134.out) HB137.out)) hu25 rfl (by kernel_rfl) ?_))
  refine (heldStore_q (StR.toC (StR.below F109.out (below_step (below_step (below_step (below_step HB114.out HB120.out) HB126.out) HB134.out) HB137.out))) (fenceSt_small HT.out HS7.out) HCr94.out).mono ?_
  rintro e W138 ⟨rfl, hb139⟩
  have HB140 := Aside0.mk hb139
  clear hb139
  go_wp2_with (fail)
  go_ret
  exact ⟨rfl, (below_step HB100.out (below_step (below_step (below_step (below_step (below_step HB114.out HB120.out) HB126.out) HB134.out) HB137.out) HB140.out))⟩
end Go.Proofs.Ytolmblfffnnabaa.P

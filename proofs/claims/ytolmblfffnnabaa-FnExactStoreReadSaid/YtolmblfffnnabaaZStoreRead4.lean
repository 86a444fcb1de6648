/- Part 4 of the proof of FnExactStoreRead: words, contracts of callees, plain lemmas. -/
import Derived.Test.YtolmblfffnnabaaZStoreRead3
namespace Go.Proofs.Ytolmblfffnnabaa.P
open Go.RowKit Go.Proofs.YtolmblfffnnabaaW.PrintWords Go.Proofs.YtolmblfffnnabaaW.PrintLast Go.Proofs.YtolmblfffnnabaaW.PrintMore
set_option linter.unusedVariables false
set_option linter.unusedSimpArgs false
set_option maxHeartbeats 8000000 in
set_option maxRecDepth 100000 in
theorem FnExactStoreRead_walk {w : World} {v0 : Value} {s0 : St} (hv0 : StC w v0 s0) (hz0 : Sized s0) (obj lo hi : Int) :
    Calls Try.prog 6 #[v0, .int .i64 obj, .agg #[.int .i64 lo, .int .i64 hi]] w fun e w' => e = .returned (.bool true) ∧ Below w.heap.size w w' := by
  have HV0 := Aside0.mk hv0
  have HZ0 := Aside0.mk hz0
  obtain ⟨A0_0, c0_0, A0_1, c0_1, A0_2, c0_2, A0_3, c0_3, A0_4, c0_4, rfl, _⟩ := hv0
  clear hz0
  obtain ⟨⟨x, q⟩, hq⟩ : ∃ q_, readSt s0 obj lo hi = q_ := ⟨_, rfl⟩
  have HQ := Aside0.mk hq
  clear hq
  have hu25 := Try.underlying25
  have hu30 := Try.underlying30
  have hu37 := Try.underlying37
  go_enter Try.func6, Try.ntmps6
  go_wp2_with (first | ((with_reducible refine gate_dst (N := 3) rfl ?_); refine ev_box ?hg (N := 3) ?hd (cs := #[.slice A0_0 s0.now.length c0_0, .slice A0_1 s0.sure.length c0_1, .slice A0_2 s0.last.length c0_2, .slice A0_3 s0.slast.length c0_3, .slice A0_4 s0.floors.length c0_4]) (t := 30) ?hr ?_; (case hd => rfl); (case hg => rfl); (case hr => first | (go_simp; done) | (go_simp; rfl)); intro g3 W1 HG4 BK2 HB3) | ((with_reducible refine gate_dst (N := 5) rfl ?_); refine ev_box ?hg (N := 5) ?hd (cs := #[.int .i64 lo, .int .i64 hi]) (t := 37) ?hr ?_; (case hd => rfl); (case hg => rfl); (case hr => first | (go_simp; done) | (go_simp; rfl)); intro g5 W5 HG8 BK6 HB7) | ((with_reducible refine gate_dst (N := 13) rfl ?_); refine ev_load rfl (N := 13) rfl rfl (g := g3) rfl (cs := #[.slice A0_0 s0.now.length c0_0, .slice A0_1 s0.sure.length c0_1, .slice A0_2 s0.last.length c0_2, .slice A0_3 s0.slast.length c0_3, .slice A0_4 s0.floors.length c0_4]) (Bk.below BK2.out HB7.out) hu30 rfl (by kernel_rfl) ?_))
  refine (szStore_c (StC.below HV0.out (below_step HB3.out HB7.out)) HZ0.out (by omega) (by omega)).mono ?_
  rintro e W12 ⟨r9, rfl, _, _, hr10, hb13⟩
  have HB14 := Aside0.mk hb13
  clear hb13
  by_cases hcr9 : r9 < 0
  · have hdr9 : decide (r9 < 0) = true := decide_eq_true hcr9
    go_wp2
    go_ret
    exact ⟨rfl, (below_step (below_step HB3.out HB7.out) HB14.out)⟩
  have hdr9 : decide (r9 < 0) = false := decide_eq_false hcr9
  have HS11 := Aside0.mk (hr10 (by omega))
  clear hr10
  go_wp2_with (fail)
  refine start_ (n := 11) (S := fun w' => Bk w' g3 #[.slice A0_0 s0.now.length c0_0, .slice A0_1 s0.sure.length c0_1, .slice A0_2 s0.last.length c0_2, .slice A0_3 s0.slast.length c0_3, .slice A0_4 s0.floors.length c0_4] 30 ∧ Bk w' g5 #[.int .i64 lo, .int .i64 hi] 37) (ds := []) #[false, false, false, false, false, false, false, false, false, false, false] (by kernel_rfl) rfl rfl ⟨(show Bk W12 g3 #[.slice A0_0 s0.now.length c0_0, .slice A0_1 s0.sure.length c0_1, .slice A0_2 s0.last.length c0_2, .slice A0_3 s0.slast.length c0_3, .slice A0_4 s0.floors.length c0_4] 30 from (Bk.below BK2.out (below_step HB7.out HB14.out))), (show Bk W12 g5 #[.int .i64 lo, .int .i64 hi] 37 from (Bk.below BK6.out HB14.out))⟩ (fun hHeld => ?_)
  clear hHeld
  refine world_at (w := W12) (below_drew0 _) (fun W15 HB16 => ?_)
  refine take_ (i := 0) (N := some 19) (v := .agg #[.slice A0_0 s0.now.length c0_0, .slice A0_1 s0.sure.length c0_1, .slice A0_2 s0.last.length c0_2, .slice A0_3 s0.slast.length c0_3, .slice A0_4 s0.floors.length c0_4]) (a' := ?_) #[true, false, false, false, false, false, false, false, false, false, false] rfl rfl (by kernel_rfl) (fun _ _ _ h => h) (Or.inl ⟨by rfl, ?_⟩) ⟨(Bk.below BK2.out (below_step (below_step HB7.out HB14.out) HB16.out)), (Bk.below BK6.out (below_step HB14.out HB16.out))⟩ ?_ ?_
  · rintro w' ⟨s0, s1⟩
    exact run_load_ev rfl rfl s0 hu30 rfl (by kernel_rfl)
  rotate_left
  · simp only [Act.put, List.setIfInBounds_toArray, List.set_cons_zero, List.set_cons_succ, i64_w, i32_w]
    rfl
  refine pure_ (i := 2) (N := some 21) (v := ?_) (a' := ?_) #[true, false, true, false, false, false, false, false, false, false, false] rfl rfl (by kernel_rfl) (fun _ _ _ h => h) (Or.inl ⟨by rfl, ?_⟩) ?_ ?_
  rotate_left
  · intro w'
    go_simp
    with_reducible rfl
  rotate_left
  · simp only [Act.put, List.setIfInBounds_toArray, List.set_cons_zero, List.set_cons_succ, i64_w, i32_w]
    rfl
  refine take_ (i := 3) (N := some 22) (v := .agg #[.int .i64 lo, .int .i64 hi]) (a' := ?_) #[true, false, true, true, false, false, false, false, false, false, false] rfl rfl (by kernel_rfl) (fun _ _ _ h => h) (Or.inl ⟨by rfl, ?_⟩) ⟨(Bk.below BK2.out (below_step (below_step HB7.out HB14.out) HB16.out)), (Bk.below BK6.out (below_step HB14.out HB16.out))⟩ ?_ ?_
  · rintro w' ⟨s0, s1⟩
    exact run_load_ev rfl rfl s1 hu37 rfl (by kernel_rfl)
  rotate_left
  · simp only [Act.put, List.setIfInBounds_toArray, List.set_cons_zero, List.set_cons_succ, i64_w, i32_w]
    rfl
  refine one_ (i := 1) (N := some 20) #[true, true, true, true, false, false, false, false, false, false, false] rfl rfl (by kernel_rfl) (by decide) (fun K hK => ?_)
  refine goes_ Try.func19 (by kernel_rfl) rfl #[.agg #[.slice A0_0 s0.now.length c0_0, .slice A0_1 s0.sure.length c0_1, .slice A0_2 s0.last.length c0_2, .slice A0_3 s0.slast.length c0_3, .slice A0_4 s0.floors.length c0_4]] (by rfl) rfl rfl (by (try simp only [List.map_toArray, List.map_cons, List.map_nil]); first | done | rfl) ?_
  refine (toStore_c (StC.below HV0.out (below_step (below_step (below_step HB3.out HB7.out) HB14.out) HB16.out)) HS11.out).mono ?_
  rintro e W20 ⟨u17, rfl, hr18, hb21⟩
  have HB22 := Aside0.mk hb21
  clear hb21
  have HRs19 := Aside0.mk hr18
  obtain ⟨as19_0, ds19_0, as19_1, ds19_1, as19_2, ds19_2, as19_3, ds19_3, as19_4, ds19_4, rfl, _⟩ := hr18.toC
  clear hr18
  refine ⟨_, rfl, ?_⟩
  refine hK.out _ _ ⟨(Bk.below BK2.out (below_step (below_step (below_step HB7.out HB14.out) HB16.out) HB22.out)), (Bk.below BK6.out (below_step (below_step HB14.out HB16.out) HB22.out))⟩ (fun hHeld => ?_)
  clear hHeld hK K
  refine norm_ (a' := ?_) ?_ ?_
  rotate_left
  · show Act.put _ (some 20) _ = _
    simp only [Act.put, List.setIfInBounds_toArray, List.set_cons_zero, List.set_cons_succ, i64_w, i32_w]
    rfl
  refine one_ (i := 4) (N := some 23) #[true, true, true, true, true, false, false, false, false, false, false] rfl rfl (by kernel_rfl) (by decide) (fun K hK => ?_)
  refine goes_ Try.func24 (by kernel_rfl) rfl #[.agg #[.int .i64 lo, .int .i64 hi]] (by rfl) rfl rfl (by (try simp only [List.map_toArray, List.map_cons, List.map_nil]); first | done | rfl) ?_
  refine (toSpan_c lo hi).mono ?_
  rintro e W23 ⟨rfl, hb24⟩
  have HB25 := Aside0.mk hb24
  clear hb24
  refine ⟨_, rfl, ?_⟩
  refine hK.out _ _ ⟨(Bk.below BK2.out (below_step (below_step (below_step (below_step HB7.out HB14.out) HB16.out) HB22.out) HB25.out)), (Bk.below BK6.out (below_step (below_step (below_step HB14.out HB16.out) HB22.out) HB25.out))⟩ (fun hHeld => ?_)
  clear hHeld hK K
  refine norm_ (a' := ?_) ?_ ?_
  rotate_left
  · show Act.put _ (some 23) _ = _
    simp only [Act.put, List.setIfInBounds_toArray, List.set_cons_zero, List.set_cons_succ, i64_w, i32_w]
    rfl
  refine one_ (i := 5) (N := some 24) #[true, true, true, true, true, true, false, false, false, false, false] rfl rfl (by kernel_rfl) (by decide) (fun K hK => ?_)
  refine goes_ Try.func23 (by kernel_rfl) rfl #[.agg #[.slice as19_0 s0.now.length ds19_0, .slice as19_1 s0.sure.length ds19_1, .slice as19_2 s0.last.length ds19_2, .slice as19_3 s0.slast.length ds19_3, .slice as19_4 s0.floors.length ds19_4], .int .i64 obj, .agg #[.int .i64 lo, .int .i64 hi]] (by rfl) rfl rfl (by (try simp only [List.map_toArray, List.map_cons, List.map_nil]); first | done | rfl) ?_
  refine (spec_StoreRead_c (StR.toC (StR.below HRs19.out HB25.out)) HZ0.out HQ.out).mono ?_
  rintro e W26 ⟨rfl, hb27⟩
  have HB28 := Aside0.mk hb27
  clear hb27
  refine ⟨_, rfl, ?_⟩
  refine hK.out _ _ ⟨(Bk.below BK2.out (below_step (below_step (below_step (below_step (below_step HB7.out HB14.out) HB16.out) HB22.out) HB25.out) HB28.out)), (Bk.below BK6.out (below_step (below_step (below_step (below_step HB14.out HB16.out) HB22.out) HB25.out) HB28.out))⟩ (fun hHeld => ?_)
  clear hHeld hK K
  refine norm_ (a' := ?_) ?_ ?_
  rotate_left
  · show Act.put _ (some 24) _ = _
    simp only [Act.put, List.setIfInBounds_toArray, List.set_cons_zero, List.set_cons_succ, i64_w, i32_w]
    rfl
  refine pure_ (i := 6) (N := some 18) (v := ?_) (a' := ?_) #[true, true, true, true, true, true, true, false, false, false, false] rfl rfl (by kernel_rfl) (fun _ _ _ h => h) (Or.inl ⟨by rfl, ?_⟩) ?_ ?_
  rotate_left
  · intro w'
    go_simp
    with_reducible rfl
  rotate_left
  · simp only [Act.put, List.setIfInBounds_toArray, List.set_cons_zero, List.set_cons_succ, i64_w, i32_w]
    rfl
  refine pure_ (i := 7) (N := some 25) (v := ?_) (a' := ?_) #[true, true, true, true, true, true, true, true, false, false, false] rfl rfl (by kernel_rfl) (fun _ _ _ h => h) (Or.inl ⟨by rfl, ?_⟩) ?_ ?_
  rotate_left
  · intro w'
    go_simp
    with_reducible rfl
  rotate_left
  · simp only [Act.put, List.setIfInBounds_toArray, List.set_cons_zero, List.set_cons_succ, i64_w, i32_w]
    rfl
  refine pure_ (i := 8) (N := some 26) (v := ?_) (a' := ?_) #[true, true, true, true, true, true, true, true, true, false, false] rfl rfl (by kernel_rfl) (fun _ _ _ h => h) (Or.inl ⟨by rfl, ?_⟩) ?_ ?_
  rotate_left
  · intro w'
    go_simp
    with_reducible rfl
  rotate_left
  · simp only [Act.put, List.setIfInBounds_toArray, List.set_cons_zero, List.set_cons_succ, i64_w, i32_w]
    rfl
  refine pure_ (i := 9) (N := some 8) (v := ?_) (a' := ?_) #[true, true, true, true, true, true, true, true, true, true, false] rfl rfl (by kernel_rfl) (fun _ _ _ h => h) (Or.inl ⟨by rfl, ?_⟩) ?_ ?_
  rotate_left
  · intro w'
    go_simp
    with_reducible rfl
  rotate_left
  · simp only [Act.put, List.setIfInBounds_toArray, List.set_cons_zero, List.set_cons_succ, i64_w, i32_w]
    rfl
  refine pure_ (i := 10) (N := some 9) (v := ?_) (a' := ?_) #[true, true, true, true, true, true, true, true, true, true, true] rfl rfl (by kernel_rfl) (fun _ _ _ h => h) (Or.inl ⟨by rfl, ?_⟩) ?_ ?_
  rotate_left
  · intro w'
    go_simp
    with_reducible rfl
  rotate_left
  · simp only [Act.put, List.setIfInBounds_toArray, List.set_cons_zero, List.set_cons_succ, i64_w, i32_w]
    rfl
  refine done_ (by kernel_rfl) ?_
  go_wp2_with (first | ((with_reducible refine gate_dst (N := 27) rfl ?_); refine ev_load rfl (N := 27) rfl rfl (g := g3) rfl (cs := #[.slice A0_0 s0.now.length c0_0, .slice A0_1 s0.sure.length c0_1, .slice A0_2 s0.last.length c0_2, .slice A0_3 s0.slast.length c0_3, .slice A0_4 s0.floors.length c0_4]) (Bk.below BK2.out (below_step (below_step (below_step (below_step (below_step HB7.out HB14.out) HB16.out) HB22.out) HB25.out) HB28.out)) hu30 rfl (by kernel_rfl) ?_))
  refine (toStore_c (StC.below HV0.out (below_step (below_step (below_step (below_step (below_step (below_step HB3.out HB7.out) HB14.out) HB16.out) HB22.out) HB25.out) HB28.out)) HS11.out).mono ?_
  rintro e W32 ⟨u29, rfl, hr30, hb33⟩
  have HB34 := Aside0.mk hb33
  clear hb33
  have HRs31 := Aside0.mk hr30
  obtain ⟨as31_0, ds31_0, as31_1, ds31_1, as31_2, ds31_2, as31_3, ds31_3, as31_4, ds31_4, rfl, _⟩ := hr30.toC
  clear hr30
  go_wp2_with (first | ((with_reducible refine gate_dst (N := 10) rfl ?_); refine ev_box ?hg (N := 10) ?hd (cs := #[.slice none 0 0, .slice none 0 0, .slice none 0 0, .slice none 0 0, .slice none 0 0]) (t := 25) ?hr ?_; (case hd => rfl); (case hg => rfl); (case hr => first | (go_simp; done) | (go_simp; rfl)); intro g10 W35 HG38 BK36 HB37) | ((with_reducible refine gate_store (t := 25) (p := 10) rfl ?_); refine ev_store rfl rfl rfl (g := g10) rfl (cs := #[.slice as31_0 s0.now.length ds31_0, .slice as31_1 s0.sure.length ds31_1, .slice as31_2 s0.last.length ds31_2, .slice as31_3 s0.slast.length ds31_3, .slice as31_4 s0.floors.length ds31_4]) rfl BK36.out (by kernel_rfl) rfl rfl ?_; intro W39 BK40 HB41; have HB42 := Aside0.mk (below_new HG38.out HB37.out HB41.out); clear BK36 HB37 HB41))
  refine start_ (n := 10) (S := fun w' => Bk w' g10 #[.slice as31_0 s0.now.length ds31_0, .slice as31_1 s0.sure.length ds31_1, .slice as31_2 s0.last.length ds31_2, .slice as31_3 s0.slast.length ds31_3, .slice as31_4 s0.floors.length ds31_4] 25 ∧ Bk w' g5 #[.int .i64 lo, .int .i64 hi] 37) (ds := []) #[false, false, false, false, false, false, false, false, false, false] (by kernel_rfl) rfl rfl ⟨(show Bk W39 g10 #[.slice as31_0 s0.now.length ds31_0, .slice as31_1 s0.sure.length ds31_1, .slice as31_2 s0.last.length ds31_2, .slice as31_3 s0.slast.length ds31_3, .slice as31_4 s0.floors.length ds31_4] 25 from BK40.out), (show Bk W39 g5 #[.int .i64 lo, .int .i64 hi] 37 from (Bk.below BK6.out (below_step (below_step (below_step (below_step (below_step (below_step HB14.out HB16.out) HB22.out) HB25.out) HB28.out) HB34.out) HB42.out)))⟩ (fun hHeld => ?_)
  clear hHeld
  refine world_at (w := W39) (below_drew0 _) (fun W43 HB44 => ?_)
  refine take_ (i := 0) (N := some 30) (v := .agg #[.slice as31_0 s0.now.length ds31_0, .slice as31_1 s0.sure.length ds31_1, .slice as31_2 s0.last.length ds31_2, .slice as31_3 s0.slast.length ds31_3, .slice as31_4 s0.floors.length ds31_4]) (a' := ?_) #[true, false, false, false, false, false, false, false, false, false] rfl rfl (by kernel_rfl) (fun _ _ _ h => h) (Or.inl ⟨by rfl, ?_⟩) ⟨(Bk.below BK40.out HB44.out), (Bk.below BK6.out (below_step (below_step (below_step (below_step (below_step (below_step (below_step HB14.out HB16.out) HB22.out) HB25.out) HB28.out) HB34.out) HB42.out) HB44.out))⟩ ?_ ?_
  · rintro w' ⟨s0, s1⟩
    exact run_load_ev rfl rfl s0 hu25 rfl (by kernel_rfl)
  rotate_left
  · simp only [Act.put, List.setIfInBounds_toArray, List.set_cons_zero, List.set_cons_succ, i64_w, i32_w]
    rfl
  refine pure_ (i := 1) (N := some 31) (v := ?_) (a' := ?_) #[true, true, false, false, false, false, false, false, false, false] rfl rfl (by kernel_rfl) (fun _ _ _ h => h) (Or.inl ⟨by rfl, ?_⟩) ?_ ?_
  rotate_left
  · intro w'
    go_simp
    with_reducible rfl
  rotate_left
  · simp only [Act.put, List.setIfInBounds_toArray, List.set_cons_zero, List.set_cons_succ, i64_w, i32_w]
    rfl
  refine take_ (i := 2) (N := some 32) (v := .agg #[.int .i64 lo, .int .i64 hi]) (a' := ?_) #[true, true, true, false, false, false, false, false, false, false] rfl rfl (by kernel_rfl) (fun _ _ _ h => h) (Or.inl ⟨by rfl, ?_⟩) ⟨(Bk.below BK40.out HB44.out), (Bk.below BK6.out (below_step (below_step (below_step (below_step (below_step (below_step (below_step HB14.out HB16.out) HB22.out) HB25.out) HB28.out) HB34.out) HB42.out) HB44.out))⟩ ?_ ?_
  · rintro w' ⟨s0, s1⟩
    exact run_load_ev rfl rfl s1 hu37 rfl (by kernel_rfl)
  rotate_left
  · simp only [Act.put, List.setIfInBounds_toArray, List.set_cons_zero, List.set_cons_succ, i64_w, i32_w]
    rfl
  refine one_ (i := 3) (N := some 33) #[true, true, true, true, false, false, false, false, false, false] rfl rfl (by kernel_rfl) (by decide) (fun K hK => ?_)
  refine goes_ Try.func24 (by kernel_rfl) rfl #[.agg #[.int .i64 lo, .int .i64 hi]] (by rfl) rfl rfl (by (try simp only [List.map_toArray, List.map_cons, List.map_nil]); first | done | rfl) ?_
  refine (toSpan_c lo hi).mono ?_
  rintro e W45 ⟨rfl, hb46⟩
  have HB47 := Aside0.mk hb46
  clear hb46
  refine ⟨_, rfl, ?_⟩
  refine hK.out _ _ ⟨(Bk.below BK40.out (below_step HB44.out HB47.out)), (Bk.below BK6.out (below_step (below_step (below_step (below_step (below_step (below_step (below_step (below_step HB14.out HB16.out) HB22.out) HB25.out) HB28.out) HB34.out) HB42.out) HB44.out) HB47.out))⟩ (fun hHeld => ?_)
  clear hHeld hK K
  refine norm_ (a' := ?_) ?_ ?_
  rotate_left
  · show Act.put _ (some 33) _ = _
    simp only [Act.put, List.setIfInBounds_toArray, List.set_cons_zero, List.set_cons_succ, i64_w, i32_w]
    rfl
  refine one_ (i := 4) (N := some 34) #[true, true, true, true, true, false, false, false, false, false] rfl rfl (by kernel_rfl) (by decide) (fun K hK => ?_)
  refine goes_ Try.func25 (by kernel_rfl) rfl #[.agg #[.slice as31_0 s0.now.length ds31_0, .slice as31_1 s0.sure.length ds31_1, .slice as31_2 s0.last.length ds31_2, .slice as31_3 s0.slast.length ds31_3, .slice as31_4 s0.floors.length ds31_4], .int .i64 obj, .agg #[.int .i64 lo, .int .i64 hi]] (by rfl) rfl rfl (by (try simp only [List.map_toArray, List.map_cons, List.map_nil]); first | done | rfl) ?_
  refine (impl_StoreRead_c (StR.toC (StR.below HRs31.out (below_step (below_step HB42.out HB44.out) HB47.out))) HZ0.out HQ.out).mono ?_
  rintro e W48 ⟨rfl, hb49⟩
  have HB50 := Aside0.mk hb49
  clear hb49
  refine ⟨_, rfl, ?_⟩
  refine hK.out _ _ ⟨(Bk.below BK40.out (below_step (below_step HB44.out HB47.out) HB50.out)), (Bk.below BK6.out (below_step (below_step (below_step (below_step (below_step (below_step (below_step (below_step (below_step HB14.out HB16.out) HB22.out) HB25.out) HB28.out) HB34.out) HB42.out) HB44.out) HB47.out) HB50.out))⟩ (fun hHeld => ?_)
  clear hHeld hK K
  refine norm_ (a' := ?_) ?_ ?_
  rotate_left
  · show Act.put _ (some 34) _ = _
    simp only [Act.put, List.setIfInBounds_toArray, List.set_cons_zero, List.set_cons_succ, i64_w, i32_w]
    rfl
  refine pure_ (i := 5) (N := some 29) (v := ?_) (a' := ?_) #[true, true, true, true, true, true, false, false, false, false] rfl rfl (by kernel_rfl) (fun _ _ _ h => h) (Or.inl ⟨by rfl, ?_⟩) ?_ ?_
  rotate_left
  · intro w'
    go_simp
    with_reducible rfl
  rotate_left
  · simp only [Act.put, List.setIfInBounds_toArray, List.set_cons_zero, List.set_cons_succ, i64_w, i32_w]
    rfl
  refine pure_ (i := 6) (N := some 35) (v := ?_) (a' := ?_) #[true, true, true, true, true, true, true, false, false, false] rfl rfl (by kernel_rfl) (fun _ _ _ h => h) (Or.inl ⟨by rfl, ?_⟩) ?_ ?_
  rotate_left
  · intro w'
    go_simp
    with_reducible rfl
  rotate_left
  · simp only [Act.put, List.setIfInBounds_toArray, List.set_cons_zero, List.set_cons_succ, i64_w, i32_w]
    rfl
  refine pure_ (i := 7) (N := some 36) (v := ?_) (a' := ?_) #[true, true, true, true, true, true, true, true, false, false] rfl rfl (by kernel_rfl) (fun _ _ _ h => h) (Or.inl ⟨by rfl, ?_⟩) ?_ ?_
  rotate_left
  · intro w'
    go_simp
    with_reducible rfl
  rotate_left
  · simp only [Act.put, List.setIfInBounds_toArray, List.set_cons_zero, List.set_cons_succ, i64_w, i32_w]
    rfl
  refine pure_ (i := 8) (N := some 11) (v := ?_) (a' := ?_) #[true, true, true, true, true, true, true, true, true, false] rfl rfl (by kernel_rfl) (fun _ _ _ h => h) (Or.inl ⟨by rfl, ?_⟩) ?_ ?_
  rotate_left
  · intro w'
    go_simp
    with_reducible rfl
  rotate_left
  · simp only [Act.put, List.setIfInBounds_toArray, List.set_cons_zero, List.set_cons_succ, i64_w, i32_w]
    rfl
  refine pure_ (i := 9) (N := some 12) (v := ?_) (a' := ?_) #[true, true, true, true, true, true, true, true, true, true] rfl rfl (by kernel_rfl) (fun _ _ _ h => h) (Or.inl ⟨by rfl, ?_⟩) ?_ ?_
  rotate_left
  · intro w'
    go_simp
    with_reducible rfl
  rotate_left
  · simp only [Act.put, List.setIfInBounds_toArray, List.set_cons_zero, List.set_cons_succ, i64_w, i32_w]
    rfl
  refine done_ (by kernel_rfl) ?_
  go_wp2_with (fail)
  refine start_ (n := 5) (S := fun w' => Bk w' g10 #[.slice as31_0 s0.now.length ds31_0, .slice as31_1 s0.sure.length ds31_1, .slice as31_2 s0.last.length ds31_2, .slice as31_3 s0.slast.length ds31_3, .slice as31_4 s0.floors.length ds31_4] 25 ∧ Bk w' g3 #[.slice A0_0 s0.now.length c0_0, .slice A0_1 s0.sure.length c0_1, .slice A0_2 s0.last.length c0_2, .slice A0_3 s0.slast.length c0_3, .slice A0_4 s0.floors.length c0_4] 30) (ds := []) #[false, false, false, false, false] (by kernel_rfl) rfl rfl ⟨(show Bk W48 g10 #[.slice as31_0 s0.now.length ds31_0, .slice as31_1 s0.sure.length ds31_1, .slice as31_2 s0.last.length ds31_2, .slice as31_3 s0.slast.length ds31_3, .slice as31_4 s0.floors.length ds31_4] 25 from (Bk.below BK40.out (below_step (below_step HB44.out HB47.out) HB50.out))), (show Bk W48 g3 #[.slice A0_0 s0.now.length c0_0, .slice A0_1 s0.sure.length c0_1, .slice A0_2 s0.last.length c0_2, .slice A0_3 s0.slast.length c0_3, .slice A0_4 s0.floors.length c0_4] 30 from (Bk.below BK2.out (below_step (below_step (below_step (below_step (below_step (below_step (below_step (below_step (below_step (below_step HB7.out HB14.out) HB16.out) HB22.out) HB25.out) HB28.out) HB34.out) HB42.out) HB44.out) HB47.out) HB50.out)))⟩ (fun hHeld => ?_)
  clear hHeld
  refine world_at (w := W48) (below_drew0 _) (fun W51 HB52 => ?_)
  refine take_ (i := 0) (N := some 45) (v := .agg #[.slice as31_0 s0.now.length ds31_0, .slice as31_1 s0.sure.length ds31_1, .slice as31_2 s0.last.length ds31_2, .slice as31_3 s0.slast.length ds31_3, .slice as31_4 s0.floors.length ds31_4]) (a' := ?_) #[true, false, false, false, false] rfl rfl (by kernel_rfl) (fun _ _ _ h => h) (Or.inl ⟨by rfl, ?_⟩) ⟨(Bk.below BK40.out (below_step (below_step (below_step HB44.out HB47.out) HB50.out) HB52.out)), (Bk.below BK2.out (below_step (below_step (below_step (below_step (below_step (below_step (below_step (below_step (below_step (below_step (below_step HB7.out HB14.out) HB16.out) HB22.out) HB25.out) HB28.out) HB34.out) HB42.out) HB44.out) HB47.out) HB50.out) HB52.out))⟩ ?_ ?_
  · rintro w' ⟨s0, s1⟩
    exact run_load_ev rfl rfl s0 hu25 rfl (by kernel_rfl)
  rotate_left
  · simp only [Act.put, List.setIfInBounds_toArray, List.set_cons_zero, List.set_cons_succ, i64_w, i32_w]
    rfl
  refine take_ (i := 1) (N := some 46) (v := .agg #[.slice A0_0 s0.now.length c0_0, .slice A0_1 s0.sure.length c0_1, .slice A0_2 s0.last.length c0_2, .slice A0_3 s0.slast.length c0_3, .slice A0_4 s0.floors.length c0_4]) (a' := ?_) #[true, true, false, false, false] rfl rfl (by kernel_rfl) (fun _ _ _ h => h) (Or.inl ⟨by rfl, ?_⟩) ⟨(Bk.below BK40.out (below_step (below_step (below_step HB44.out HB47.out) HB50.out) HB52.out)), (Bk.below BK2.out (below_step (below_step (below_step (below_step (below_step (below_step (below_step (below_step (below_step (below_step (below_step HB7.out HB14.out) HB16.out) HB22.out) HB25.out) HB28.out) HB34.out) HB42.out) HB44.out) HB47.out) HB50.out) HB52.out))⟩ ?_ ?_
  · rintro w' ⟨s0, s1⟩
    exact run_load_ev rfl rfl s1 hu30 rfl (by kernel_rfl)
  rotate_left
  · simp only [Act.put, List.setIfInBounds_toArray, List.set_cons_zero, List.set_cons_succ, i64_w, i32_w]
    rfl
  refine one_ (i := 2) (N := some 47) #[true, true, true, false, false] rfl rfl (by kernel_rfl) (by decide) (fun K hK => ?_)
  refine goes_ Try.func19 (by kernel_rfl) rfl #[.agg #[.slice A0_0 s0.now.length c0_0, .slice A0_1 s0.sure.length c0_1, .slice A0_2 s0.last.length c0_2, .slice A0_3 s0.slast.length c0_3, .slice A0_4 s0.floors.length c0_4]] (by rfl) rfl rfl (by (try simp only [List.map_toArray, List.map_cons, List.map_nil]); first | done | rfl) ?_
  refine (toStore_c (StC.below HV0.out (below_step (below_step (below_step (below_step (below_step (below_step (below_step (below_step (below_step (below_step (below_step (below_step HB3.out HB7.out) HB14.out) HB16.out) HB22.out) HB25.out) HB28.out) HB34.out) HB42.out) HB44.out) HB47.out) HB50.out) HB52.out)) HS11.out).mono ?_
  rintro e W56 ⟨u53, rfl, hr54, hb57⟩
  have HB58 := Aside0.mk hb57
  clear hb57
  have HRs55 := Aside0.mk hr54
  obtain ⟨as55_0, ds55_0, as55_1, ds55_1, as55_2, ds55_2, as55_3, ds55_3, as55_4, ds55_4, rfl, _⟩ := hr54.toC
  clear hr54
  refine ⟨_, rfl, ?_⟩
  refine hK.out _ _ ⟨(Bk.below BK40.out (below_step (below_step (below_step (below_step HB44.out HB47.out) HB50.out) HB52.out) HB58.out)), (Bk.below BK2.out (below_step (below_step (below_step (below_step (below_step (below_step (below_step (below_step (below_step (below_step (below_step (below_step HB7.out HB14.out) HB16.out) HB22.out) HB25.out) HB28.out) HB34.out) HB42.out) HB44.out) HB47.out) HB50.out) HB52.out) HB58.out))⟩ (fun hHeld => ?_)
  clear hHeld hK K
  refine norm_ (a' := ?_) ?_ ?_
  rotate_left
  · show Act.put _ (some 47) _ = _
    simp only [Act.put, List.setIfInBounds_toArray, List.set_cons_zero, List.set_cons_succ, i64_w, i32_w]
    rfl
  refine one_ (i := 3) (N := some 48) #[true, true, true, true, false] rfl rfl (by kernel_rfl) (by decide) (fun K hK => ?_)
  refine goes_ Try.func14 (by kernel_rfl) rfl #[.agg #[.slice as31_0 s0.now.length ds31_0, .slice as31_1 s0.sure.length ds31_1, .slice as31_2 s0.last.length ds31_2, .slice as31_3 s0.slast.length ds31_3, .slice as31_4 s0.floors.length ds31_4], .agg #[.slice as55_0 s0.now.length ds55_0, .slice as55_1 s0.sure.length ds55_1, .slice as55_2 s0.last.length ds55_2, .slice as55_3 s0.slast.length ds55_3, .slice as55_4 s0.floors.length ds55_4]] (by rfl) rfl rfl (by (try simp only [List.map_toArray, List.map_cons, List.map_nil]); first | done | rfl) ?_
  refine (eqStore_t (StR.toC (StR.below HRs31.out (below_step (below_step (below_step (below_step (below_step HB42.out HB44.out) HB47.out) HB50.out) HB52.out) HB58.out))) (StR.toC HRs55.out)).mono ?_
  rintro e W59 ⟨rfl, hb60⟩
  have HB61 := Aside0.mk hb60
  clear hb60
  refine ⟨_, rfl, ?_⟩
  refine hK.out _ _ ⟨(Bk.below BK40.out (below_step (below_step (below_step (below_step (below_step HB44.out HB47.out) HB50.out) HB52.out) HB58.out) HB61.out)), (Bk.below BK2.out (below_step (below_step (below_step (below_step (below_step (below_step (below_step (below_step (below_step (below_step (below_step (below_step (below_step HB7.out HB14.out) HB16.out) HB22.out) HB25.out) HB28.out) HB34.out) HB42.out) HB44.out) HB47.out) HB50.out) HB52.out) HB58.out) HB61.out))⟩ (fun hHeld => ?_)
  clear hHeld hK K
  refine norm_ (a' := ?_) ?_ ?_
  rotate_left
  · show Act.put _ (some 48) _ = _
    simp only [Act.put, List.setIfInBounds_toArray, List.set_cons_zero, List.set_cons_succ, i64_w, i32_w]
    rfl
  refine pure_ (i := 4) (N := some 49) (v := ?_) (a' := ?_) #[true, true, true, true, true] rfl rfl (by kernel_rfl) (fun _ _ _ h => h) (Or.inl ⟨by rfl, ?_⟩) ?_ ?_
  rotate_left
  · intro w'
    go_simp
    with_reducible rfl
  rotate_left
  · simp only [Act.put, List.setIfInBounds_toArray, List.set_cons_zero, List.set_cons_succ, i64_w, i32_w]
    rfl
  refine done_ (by kernel_rfl) ?_
  go_wp2_with (fail)
  go_ret
  exact ⟨rfl, (below_step (below_step (below_step (below_step (below_step (below_step (below_step (below_step (below_step (below_step (below_step (below_step (below_step (below_step HB3.out HB7.out) HB14.out) HB16.out) HB22.out) HB25.out) HB28.out) HB34.out) HB42.out) HB44.out) HB47.out) HB50.out) HB52.out) HB58.out) HB61.out)⟩
end Go.Proofs.Ytolmblfffnnabaa.P

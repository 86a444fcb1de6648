/- Part 5 of the proof of FnStoreRead: words, contracts of callees, plain lemmas. -/
import Derived.Test.YtmekkapacbdbeaaZLStoreRead4
namespace Go.Proofs.Ytmekkapacbdbeaa.P
open Go.RowKit Go.Proofs.YtmekkapacbdbeaaW.PrintWords Go.Proofs.YtmekkapacbdbeaaW.PrintLast Go.Proofs.YtmekkapacbdbeaaW.PrintMore
attribute [local go_sem] max2_int min2_int max_two min_two
set_option linter.unusedVariables false
set_option linter.unusedSimpArgs false
set_option maxHeartbeats 8000000 in
set_option maxRecDepth 100000 in
theorem spec_l5Do_p1 {w0 w : World} {v0 : Value} {s0 : St} {lo hi : Nat} (hB : Below w0.heap.size w0 w) (hv0 : StR w lo hi v0 s0) (hlo : w0.heap.size ≤ lo) (hhi : hi ≤ w.heap.size) (who ep num obj at_ : Int) (data : ByteArray) (hd : data.size ≤ 9223372036854775807) (hq : reqOk ⟨who, ep, num, obj, at_, data⟩ = false) :
  Calls Try.prog 51 #[v0, .agg #[.int .i64 who, .int .i64 ep, .int .i64 num, .int .i64 obj, .int .i64 at_, .string data]] w fun e w' => e = .returned (.tuple #[v0, .int .i64 1]) ∧ StR w' lo hi v0 s0 ∧ Below w0.heap.size w0 w' ∧ Kept w w' (fun k => lo ≤ k ∧ k < hi) := by
 have HB0 := Ak hB
 have HLO := Ak hlo
 have HHI := Ak hhi
 have HV0 := Ak hv0
 obtain ⟨A0, c0, A1, c1, A2, c2, A3, c3, A4, c4, rfl, _⟩ := hv0.toC
 have KP0 := Ak (Kept.refl w (fun k => lo ≤ k ∧ k < hi))
 clear hB hlo hhi hv0
 have HD := Ak hd
 have HQ := Ak hq
 clear hd hq
 have hu25 := Try.underlying26
 have hu63 := Try.underlying52
 go_enter Try.func51, Try.ntmps51
 go_wp2_with (first | ((with_reducible refine gate_dst (N := 2) rfl ?_); refine ev_box ?hg (N := 2) ?hd (cs := #[.slice A0 s0.now.length c0, .slice A1 s0.sure.length c1, .slice A2 s0.last.length c2, .slice A3 s0.slast.length c3, .slice A4 s0.floors.length c4]) (t := 26) ?hr ?_; (case hd => rfl); (case hg => rfl); (case hr => first | (go_simp; done) | (go_simp; rfl)); intro g2 W1 HG4 BK2 HB3) | ((with_reducible refine gate_dst (N := 3) rfl ?_); refine ev_box ?hg (N := 3) ?hd (cs := #[.int .i64 who, .int .i64 ep, .int .i64 num, .int .i64 obj, .int .i64 at_, .string data]) (t := 52) ?hr ?_; (case hd => rfl); (case hg => rfl); (case hr => first | (go_simp; done) | (go_simp; rfl)); intro g3 W5 HG8 BK6 HB7) | ((with_reducible refine gate_dst (N := 4) rfl ?_); refine ev_box ?hg (N := 4) ?hd (cs := #[.slice none 0 0, .slice none 0 0, .slice none 0 0, .slice none 0 0, .slice none 0 0]) (t := 26) ?hr ?_; (case hd => rfl); (case hg => rfl); (case hr => first | (go_simp; done) | (go_simp; rfl)); intro g4 W9 HG12 BK10 HB11) | ((with_reducible refine gate_dst (N := 7) rfl ?_); refine ev_load rfl (N := 7) rfl rfl (g := g3) rfl (cs := #[.int .i64 who, .int .i64 ep, .int .i64 num, .int .i64 obj, .int .i64 at_, .string data]) (Bk.below BK6.out HB11.out) hu63 rfl (by kernel_rfl) ?_))
 refine (spec_l5Req_c HD.out HQ.out).mono ?_
 rintro e W13 ⟨rfl, hb14⟩
 have HB15 := Ak hb14
 clear hb14
 go_wp2_with (first | ((with_reducible refine gate_dst (N := 10) rfl ?_); refine ev_load rfl (N := 10) rfl rfl (g := g2) rfl (cs := #[.slice A0 s0.now.length c0, .slice A1 s0.sure.length c1, .slice A2 s0.last.length c2, .slice A3 s0.slast.length c3, .slice A4 s0.floors.length c4]) (Bk.below BK2.out (below_step (below_step HB7.out HB11.out) HB15.out)) hu25 rfl (by kernel_rfl) ?_) | ((with_reducible refine gate_store (t := 26) (p := 4) rfl ?_); refine ev_put (by rfl) rfl rfl (g := g4) rfl (cs := #[.slice A0 s0.now.length c0, .slice A1 s0.sure.length c1, .slice A2 s0.last.length c2, .slice A3 s0.slast.length c3, .slice A4 s0.floors.length c4]) rfl (Bk.below BK10.out HB15.out) (by kernel_rfl) rfl rfl ?_; intro W16 BK17 HB18 HK19; have z0_ := HLO.out; have z1_ := HHI.out; have z2_ := HB0.out.size; have z3_ := HB3.out.size; have z4_ := HG4.out; have z5_ := BK2.out.lt; have z6_ := HB7.out.size; have z7_ := HG8.out; have z8_ := BK6.out.lt; have z9_ := HB11.out.size; have z10_ := HG12.out; have z11_ := BK10.out.lt; have z12_ := HB15.out.size; have HB20 := Ak (below_at (below_step HB0.out (below_step (below_step (below_step HB3.out HB7.out) HB11.out) HB15.out)) HB18.out (by show w0.heap.size ≤ g4; omega)); have HK21 := Ak (HK19.out); have KP22 := Ak (kept_new (Kept.below KP0.out (below_step (below_step (below_step HB3.out HB7.out) HB11.out) HB15.out)) HK21.out (by show w.heap.size ≤ g4; omega)); have F23 := Ak (StR.kept (StR.below HV0.out (below_step (below_step (below_step HB3.out HB7.out) HB11.out) HB15.out)) HK21.out (fun k_ h_ => (by obtain ⟨h1_, h2_⟩ := h_; omega))); have F24 := Ak (Bk.kept (Bk.below BK2.out (below_step (below_step HB7.out HB11.out) HB15.out)) HK21.out (fun h_ => (by obtain ⟨h1_, h2_⟩ := h_; omega))); have F25 := Ak (Bk.kept (Bk.below BK6.out (below_step HB11.out HB15.out)) HK21.out (fun h_ => (by obtain ⟨h1_, h2_⟩ := h_; omega))); have F26 := Ak (BK17.out); clear z0_ z1_ z2_ z3_ z4_ z5_ z6_ z7_ z8_ z9_ z10_ z11_ z12_))
 try go_wp2
 refine bodyPost_ret (results_ct rfl _ _ g4 26 #[.slice A0 s0.now.length c0, .slice A1 s0.sure.length c1, .slice A2 s0.last.length c2, .slice A3 s0.slast.length c3, .slice A4 s0.floors.length c4] (0, 0) _ rfl F26.out hu25 rfl (by kernel_rfl)) rfl ?_
 exact ⟨rfl, F23.out, HB20.out, KP22.out⟩
set_option maxHeartbeats 8000000 in
set_option maxRecDepth 100000 in
theorem spec_l5Do_p2 {w0 w : World} {v0 : Value} {s0 : St} {lo hi : Nat} (hB : Below w0.heap.size w0 w) (hv0 : StR w lo hi v0 s0) (hlo : w0.heap.size ≤ lo) (hhi : hi ≤ w.heap.size) (who ep num obj at_ : Int) (data : ByteArray) (hd : data.size ≤ 9223372036854775807) (b0 : 0 ≤ who) (b1 : who < s0.floors.length) (b2 : who < s0.last.length) (b3 : 0 ≤ obj) (b4 : obj < s0.now.length) (b5 : textOk (rdOf ByteArray.empty s0.now obj) = true) (hq : reqOk ⟨who, ep, num, obj, at_, data⟩ = true) (h1 : ep < rd s0.floors who) :
  Calls Try.prog 51 #[v0, .agg #[.int .i64 who, .int .i64 ep, .int .i64 num, .int .i64 obj, .int .i64 at_, .string data]] w fun e w' => e = .returned (.tuple #[v0, .int .i64 2]) ∧ StR w' lo hi v0 s0 ∧ Below w0.heap.size w0 w' ∧ Kept w w' (fun k => lo ≤ k ∧ k < hi) := by
 have HB0 := Ak hB
 have HLO := Ak hlo
 have HHI := Ak hhi
 have HV0 := Ak hv0
 obtain ⟨A0, c0, A1, c1, A2, c2, A3, c3, A4, c4, rfl, _⟩ := hv0.toC
 have KP0 := Ak (Kept.refl w (fun k => lo ≤ k ∧ k < hi))
 clear hB hlo hhi hv0
 have hd1 : decide (ep < rd s0.floors who) = true := decide_eq_true h1
 clear h1
 have hb0 := eq_true b0
 have HN0 := Ak b0
 have hb1 := eq_true b1
 have HN1 := Ak b1
 have hb2 := eq_true b2
 have HN2 := Ak b2
 have hb3 := eq_true b3
 have HN3 := Ak b3
 have hb4 := eq_true b4
 have HN4 := Ak b4
 have HN5 := Ak b5
 clear b0 b1 b2 b3 b4 b5
 have HD := Ak hd
 have HQ := Ak hq
 clear hd hq
 obtain ⟨g1, rfl⟩ := StR.floors_form HV0.out HN0.out HN1.out; have GT2 := Ak (StR.floors_lt HV0.out); have GL3 := Ak (StR.floors_cell HV0.out HN0.out HN1.out).1; have GH4 := Ak (StR.floors_cell HV0.out HN0.out HN1.out).2.1
 obtain ⟨g5, rfl⟩ := StR.last_form HV0.out HN0.out HN2.out; have GT6 := Ak (StR.last_lt HV0.out); have GL7 := Ak (StR.last_cell HV0.out HN0.out HN2.out).1; have GH8 := Ak (StR.last_cell HV0.out HN0.out HN2.out).2.1
 obtain ⟨g9, rfl⟩ := StR.now_form HV0.out HN3.out HN4.out; have GT10 := Ak (StR.now_lt HV0.out); have GL11 := Ak (StR.now_cell HV0.out HN3.out HN4.out).1; have GH12 := Ak (StR.now_cell HV0.out HN3.out HN4.out).2.1
 have hu25 := Try.underlying26
 have hu63 := Try.underlying52
 go_enter Try.func51, Try.ntmps51
 go_wp2_with (first | ((with_reducible refine gate_dst (N := 2) rfl ?_); refine ev_box ?hg (N := 2) ?hd (cs := #[.slice (some ⟨g9, 0, none⟩) s0.now.length c0, .slice A1 s0.sure.length c1, .slice (some ⟨g5, 0, none⟩) s0.last.length c2, .slice A3 s0.slast.length c3, .slice (some ⟨g1, 0, none⟩) s0.floors.length c4]) (t := 26) ?hr ?_; (case hd => rfl); (case hg => rfl); (case hr => first | (go_simp; done) | (go_simp; rfl)); intro g2 W13 HG16 BK14 HB15) | ((with_reducible refine gate_dst (N := 3) rfl ?_); refine ev_box ?hg (N := 3) ?hd (cs := #[.int .i64 who, .int .i64 ep, .int .i64 num, .int .i64 obj, .int .i64 at_, .string data]) (t := 52) ?hr ?_; (case hd => rfl); (case hg => rfl); (case hr => first | (go_simp; done) | (go_simp; rfl)); intro g3 W17 HG20 BK18 HB19) | ((with_reducible refine gate_dst (N := 4) rfl ?_); refine ev_box ?hg (N := 4) ?hd (cs := #[.slice none 0 0, .slice none 0 0, .slice none 0 0, .slice none 0 0, .slice none 0 0]) (t := 26) ?hr ?_; (case hd => rfl); (case hg => rfl); (case hr => first | (go_simp; done) | (go_simp; rfl)); intro g4 W21 HG24 BK22 HB23) | ((with_reducible refine gate_dst (N := 7) rfl ?_); refine ev_load rfl (N := 7) rfl rfl (g := g3) rfl (cs := #[.int .i64 who, .int .i64 ep, .int .i64 num, .int .i64 obj, .int .i64 at_, .string data]) (Bk.below BK18.out HB23.out) hu63 rfl (by kernel_rfl) ?_))
 refine (spec_l5Req_c HD.out HQ.out).mono ?_
 rintro e W25 ⟨rfl, hb26⟩
 have HB27 := Ak hb26
 clear hb26
 go_wp2_with (fail)
 refine start_ (n := 10) (S := fun w' => Bk w' g3 #[.int .i64 who, .int .i64 ep, .int .i64 num, .int .i64 obj, .int .i64 at_, .string data] 52 ∧ Bk w' g2 #[.slice (some ⟨g9, 0, none⟩) s0.now.length c0, .slice A1 s0.sure.length c1, .slice (some ⟨g5, 0, none⟩) s0.last.length c2, .slice A3 s0.slast.length c3, .slice (some ⟨g1, 0, none⟩) s0.floors.length c4] 26 ∧ w'.cell? ⟨g1, who.toNat, none⟩ = some (.int .i64 (rd s0.floors who))) (ds := []) #[false, false, false, false, false, false, false, false, false, false] (by kernel_rfl) rfl rfl ⟨(show Bk W25 g3 #[.int .i64 who, .int .i64 ep, .int .i64 num, .int .i64 obj, .int .i64 at_, .string data] 52 from (Bk.below BK18.out (below_step HB23.out HB27.out))), (show Bk W25 g2 #[.slice (some ⟨g9, 0, none⟩) s0.now.length c0, .slice A1 s0.sure.length c1, .slice (some ⟨g5, 0, none⟩) s0.last.length c2, .slice A3 s0.slast.length c3, .slice (some ⟨g1, 0, none⟩) s0.floors.length c4] 26 from (Bk.below BK14.out (below_step (below_step HB19.out HB23.out) HB27.out))), (StR.floors_cell (StR.below HV0.out (below_step (below_step (below_step HB15.out HB19.out) HB23.out) HB27.out)) HN0.out HN1.out).2.2.1⟩ (fun hHeld => ?_)
 clear hHeld
 refine world_at (w := W25) (below_drew0 _) (fun W28 HB29 => ?_)
 refine pure_ (i := 0) (N := some 12) (v := ?_) (a' := ?_) #[true, false, false, false, false, false, false, false, false, false] rfl rfl (by kernel_rfl) (fun _ _ _ h => h) (Or.inl ⟨by rfl, ?_⟩) ?_ ?_
 rotate_left
 ·intro w'
  go_simp
  with_reducible rfl
 rotate_left
 ·simp only [Act.put, List.setIfInBounds_toArray, List.set_cons_zero, List.set_cons_succ, i64_w, i32_w]
  rfl
 refine take_ (i := 1) (N := some 13) (v := .int .i64 ep) (a' := ?_) #[true, true, false, false, false, false, false, false, false, false] rfl rfl (by kernel_rfl) (fun _ _ _ h => h) (Or.inl ⟨by rfl, ?_⟩) ⟨(Bk.below BK18.out (below_step (below_step HB23.out HB27.out) HB29.out)), (Bk.below BK14.out (below_step (below_step (below_step HB19.out HB23.out) HB27.out) HB29.out)), (StR.floors_cell (StR.below HV0.out (below_step (below_step (below_step (below_step HB15.out HB19.out) HB23.out) HB27.out) HB29.out)) HN0.out HN1.out).2.2.1⟩ ?_ ?_
 ·rintro w' ⟨s0_, s1_, s2_⟩
  have hc_ : w'.cell? ⟨g3, 1, none⟩ = some (.int .i64 ep) := (Bk.cell s0_ 1).trans rfl
  first | (go_simp; done) | (go_simp; with_reducible rfl) | (go_simp; rfl)
 rotate_left
 ·simp only [Act.put, List.setIfInBounds_toArray, List.set_cons_zero, List.set_cons_succ, i64_w, i32_w]
  rfl
 refine pure_ (i := 2) (N := some 14) (v := ?_) (a' := ?_) #[true, true, true, false, false, false, false, false, false, false] rfl rfl (by kernel_rfl) (fun _ _ _ h => h) (Or.inl ⟨by rfl, ?_⟩) ?_ ?_
 rotate_left
 ·intro w'
  go_simp
  with_reducible rfl
 rotate_left
 ·simp only [Act.put, List.setIfInBounds_toArray, List.set_cons_zero, List.set_cons_succ, i64_w, i32_w]
  rfl
 refine take_ (i := 3) (N := some 15) (v := .slice (some ⟨g1, 0, none⟩) s0.floors.length c4) (a' := ?_) #[true, true, true, true, false, false, false, false, false, false] rfl rfl (by kernel_rfl) (fun _ _ _ h => h) (Or.inl ⟨by rfl, ?_⟩) ⟨(Bk.below BK18.out (below_step (below_step HB23.out HB27.out) HB29.out)), (Bk.below BK14.out (below_step (below_step (below_step HB19.out HB23.out) HB27.out) HB29.out)), (StR.floors_cell (StR.below HV0.out (below_step (below_step (below_step (below_step HB15.out HB19.out) HB23.out) HB27.out) HB29.out)) HN0.out HN1.out).2.2.1⟩ ?_ ?_
 ·rintro w' ⟨s0_, s1_, s2_⟩
  have hc_ : w'.cell? ⟨g2, 4, none⟩ = some (.slice (some ⟨g1, 0, none⟩) s0.floors.length c4) := (Bk.cell s1_ 4).trans rfl
  first | (go_simp; done) | (go_simp; with_reducible rfl) | (go_simp; rfl)
 rotate_left
 ·simp only [Act.put, List.setIfInBounds_toArray, List.set_cons_zero, List.set_cons_succ, i64_w, i32_w]
  rfl
 refine pure_ (i := 4) (N := some 16) (v := ?_) (a' := ?_) #[true, true, true, true, true, false, false, false, false, false] rfl rfl (by kernel_rfl) (fun _ _ _ h => h) (Or.inl ⟨by rfl, ?_⟩) ?_ ?_
 rotate_left
 ·intro w'
  go_simp
  with_reducible rfl
 rotate_left
 ·simp only [Act.put, List.setIfInBounds_toArray, List.set_cons_zero, List.set_cons_succ, i64_w, i32_w]
  rfl
 refine take_ (i := 5) (N := some 17) (v := .int .i64 who) (a' := ?_) #[true, true, true, true, true, true, false, false, false, false] rfl rfl (by kernel_rfl) (fun _ _ _ h => h) (Or.inl ⟨by rfl, ?_⟩) ⟨(Bk.below BK18.out (below_step (below_step HB23.out HB27.out) HB29.out)), (Bk.below BK14.out (below_step (below_step (below_step HB19.out HB23.out) HB27.out) HB29.out)), (StR.floors_cell (StR.below HV0.out (below_step (below_step (below_step (below_step HB15.out HB19.out) HB23.out) HB27.out) HB29.out)) HN0.out HN1.out).2.2.1⟩ ?_ ?_
 ·rintro w' ⟨s0_, s1_, s2_⟩
  have hc_ : w'.cell? ⟨g3, 0, none⟩ = some (.int .i64 who) := (Bk.cell s0_ 0).trans rfl
  first | (go_simp; done) | (go_simp; with_reducible rfl) | (go_simp; rfl)
 rotate_left
 ·simp only [Act.put, List.setIfInBounds_toArray, List.set_cons_zero, List.set_cons_succ, i64_w, i32_w]
  rfl
 refine pure_ (i := 6) (N := some 18) (v := ?_) (a' := ?_) #[true, true, true, true, true, true, true, false, false, false] rfl rfl (by kernel_rfl) (fun _ _ _ h => h) (Or.inl ⟨by rfl, ?_⟩) ?_ ?_
 rotate_left
 ·intro w'
  go_simp
  with_reducible rfl
 rotate_left
 ·simp only [Act.put, List.setIfInBounds_toArray, List.set_cons_zero, List.set_cons_succ, i64_w, i32_w]
  rfl
 refine take_ (i := 7) (N := some 19) (v := .int .i64 (rd s0.floors who)) (a' := ?_) #[true, true, true, true, true, true, true, true, false, false] rfl rfl (by kernel_rfl) (fun _ _ _ h => h) (Or.inl ⟨by rfl, ?_⟩) ⟨(Bk.below BK18.out (below_step (below_step HB23.out HB27.out) HB29.out)), (Bk.below BK14.out (below_step (below_step (below_step HB19.out HB23.out) HB27.out) HB29.out)), (StR.floors_cell (StR.below HV0.out (below_step (below_step (below_step (below_step HB15.out HB19.out) HB23.out) HB27.out) HB29.out)) HN0.out HN1.out).2.2.1⟩ ?_ ?_
 ·rintro w' ⟨s0_, s1_, s2_⟩
  first | (go_simp; done) | (go_simp; with_reducible rfl) | (go_simp; rfl)
 rotate_left
 ·simp only [Act.put, List.setIfInBounds_toArray, List.set_cons_zero, List.set_cons_succ, i64_w, i32_w]
  rfl
 refine pure_ (i := 8) (N := some 20) (v := ?_) (a' := ?_) #[true, true, true, true, true, true, true, true, true, false] rfl rfl (by kernel_rfl) (fun _ _ _ h => h) (Or.inl ⟨by rfl, ?_⟩) ?_ ?_
 rotate_left
 ·intro w'
  go_simp
  with_reducible rfl
 rotate_left
 ·simp only [Act.put, List.setIfInBounds_toArray, List.set_cons_zero, List.set_cons_succ, i64_w, i32_w]
  rfl
 refine pure_ (i := 9) (N := some 11) (v := ?_) (a' := ?_) #[true, true, true, true, true, true, true, true, true, true] rfl rfl (by kernel_rfl) (fun _ _ _ h => h) (Or.inl ⟨by rfl, ?_⟩) ?_ ?_
 rotate_left
 ·intro w'
  go_simp
  with_reducible rfl
 rotate_left
 ·simp only [Act.put, List.setIfInBounds_toArray, List.set_cons_zero, List.set_cons_succ, i64_w, i32_w]
  rfl
 refine done_ (by kernel_rfl) ?_
 go_wp2_with (first | ((with_reducible refine gate_dst (N := 21) rfl ?_); refine ev_load rfl (N := 21) rfl rfl (g := g2) rfl (cs := #[.slice (some ⟨g9, 0, none⟩) s0.now.length c0, .slice A1 s0.sure.length c1, .slice (some ⟨g5, 0, none⟩) s0.last.length c2, .slice A3 s0.slast.length c3, .slice (some ⟨g1, 0, none⟩) s0.floors.length c4]) (Bk.below BK14.out (below_step (below_step (below_step HB19.out HB23.out) HB27.out) HB29.out)) hu25 rfl (by kernel_rfl) ?_) | ((with_reducible refine gate_store (t := 26) (p := 4) rfl ?_); refine ev_put (by rfl) rfl rfl (g := g4) rfl (cs := #[.slice (some ⟨g9, 0, none⟩) s0.now.length c0, .slice A1 s0.sure.length c1, .slice (some ⟨g5, 0, none⟩) s0.last.length c2, .slice A3 s0.slast.length c3, .slice (some ⟨g1, 0, none⟩) s0.floors.length c4]) rfl (Bk.below BK22.out (below_step HB27.out HB29.out)) (by kernel_rfl) rfl rfl ?_; intro W30 BK31 HB32 HK33; have z0_ := HLO.out; have z1_ := HHI.out; have z2_ := HB0.out.size; have z3_ := GT2.out; have z4_ := GL3.out; have z5_ := GH4.out; have z6_ := GT6.out; have z7_ := GL7.out; have z8_ := GH8.out; have z9_ := GT10.out; have z10_ := GL11.out; have z11_ := GH12.out; have z12_ := HB15.out.size; have z13_ := HG16.out; have z14_ := BK14.out.lt; have z15_ := HB19.out.size; have z16_ := HG20.out; have z17_ := BK18.out.lt; have z18_ := HB23.out.size; have z19_ := HG24.out; have z20_ := BK22.out.lt; have z21_ := HB27.out.size; have z22_ := HB29.out.size; have HB34 := Ak (below_at (below_step HB0.out (below_step (below_step (below_step (below_step HB15.out HB19.out) HB23.out) HB27.out) HB29.out)) HB32.out (by show w0.heap.size ≤ g4; omega)); have HK35 := Ak (HK33.out); have KP36 := Ak (kept_new (Kept.below KP0.out (below_step (below_step (below_step (below_step HB15.out HB19.out) HB23.out) HB27.out) HB29.out)) HK35.out (by show w.heap.size ≤ g4; omega)); have F37 := Ak (StR.kept (StR.below HV0.out (below_step (below_step (below_step (below_step HB15.out HB19.out) HB23.out) HB27.out) HB29.out)) HK35.out (fun k_ h_ => (by obtain ⟨h1_, h2_⟩ := h_; omega))); have F38 := Ak (Bk.kept (Bk.below BK14.out (below_step (below_step (below_step HB19.out HB23.out) HB27.out) HB29.out)) HK35.out (fun h_ => (by obtain ⟨h1_, h2_⟩ := h_; omega))); have F39 := Ak (Bk.kept (Bk.below BK18.out (below_step (below_step HB23.out HB27.out) HB29.out)) HK35.out (fun h_ => (by obtain ⟨h1_, h2_⟩ := h_; omega))); have F40 := Ak (BK31.out); clear z0_ z1_ z2_ z3_ z4_ z5_ z6_ z7_ z8_ z9_ z10_ z11_ z12_ z13_ z14_ z15_ z16_ z17_ z18_ z19_ z20_ z21_ z22_))
 try go_wp2
 refine bodyPost_ret (results_ct rfl _ _ g4 26 #[.slice (some ⟨g9, 0, none⟩) s0.now.length c0, .slice A1 s0.sure.length c1, .slice (some ⟨g5, 0, none⟩) s0.last.length c2, .slice A3 s0.slast.length c3, .slice (some ⟨g1, 0, none⟩) s0.floors.length c4] (0, 0) _ rfl F40.out hu25 rfl (by kernel_rfl)) rfl ?_
 exact ⟨rfl, F37.out, HB34.out, KP36.out⟩
set_option maxHeartbeats 8000000 in
set_option maxRecDepth 100000 in
theorem spec_l5Do_p3 {w0 w : World} {v0 : Value} {s0 : St} {lo hi : Nat} (hB : Below w0.heap.size w0 w) (hv0 : StR w lo hi v0 s0) (hlo : w0.heap.size ≤ lo) (hhi : hi ≤ w.heap.size) (who ep num obj at_ : Int) (data : ByteArray) (hd : data.size ≤ 9223372036854775807) (b0 : 0 ≤ who) (b1 : who < s0.floors.length) (b2 : who < s0.last.length) (b3 : 0 ≤ obj) (b4 : obj < s0.now.length) (b5 : textOk (rdOf ByteArray.empty s0.now obj) = true) (hq : reqOk ⟨who, ep, num, obj, at_, data⟩ = true) (h1 : ¬ ep < rd s0.floors who) (h2 : num ≤ rd s0.last who) :
  Calls Try.prog 51 #[v0, .agg #[.int .i64 who, .int .i64 ep, .int .i64 num, .int .i64 obj, .int .i64 at_, .string data]] w fun e w' => e = .returned (.tuple #[v0, .int .i64 3]) ∧ StR w' lo hi v0 s0 ∧ Below w0.heap.size w0 w' ∧ Kept w w' (fun k => lo ≤ k ∧ k < hi) := by
 have HB0 := Ak hB
 have HLO := Ak hlo
 have HHI := Ak hhi
 have HV0 := Ak hv0
 obtain ⟨A0, c0, A1, c1, A2, c2, A3, c3, A4, c4, rfl, _⟩ := hv0.toC
 have KP0 := Ak (Kept.refl w (fun k => lo ≤ k ∧ k < hi))
 clear hB hlo hhi hv0
 have hd1 : decide (ep < rd s0.floors who) = false := decide_eq_false h1
 have hd2 : decide (num ≤ rd s0.last who) = true := decide_eq_true h2
 clear h1 h2
 have hb0 := eq_true b0
 have HN0 := Ak b0
 have hb1 := eq_true b1
 have HN1 := Ak b1
 have hb2 := eq_true b2
 have HN2 := Ak b2
 have hb3 := eq_true b3
 have HN3 := Ak b3
 have hb4 := eq_true b4
 have HN4 := Ak b4
 have HN5 := Ak b5
 clear b0 b1 b2 b3 b4 b5
 have HD := Ak hd
 have HQ := Ak hq
 clear hd hq
 obtain ⟨g1, rfl⟩ := StR.floors_form HV0.out HN0.out HN1.out; have GT2 := Ak (StR.floors_lt HV0.out); have GL3 := Ak (StR.floors_cell HV0.out HN0.out HN1.out).1; have GH4 := Ak (StR.floors_cell HV0.out HN0.out HN1.out).2.1
 obtain ⟨g5, rfl⟩ := StR.last_form HV0.out HN0.out HN2.out; have GT6 := Ak (StR.last_lt HV0.out); have GL7 := Ak (StR.last_cell HV0.out HN0.out HN2.out).1; have GH8 := Ak (StR.last_cell HV0.out HN0.out HN2.out).2.1
 obtain ⟨g9, rfl⟩ := StR.now_form HV0.out HN3.out HN4.out; have GT10 := Ak (StR.now_lt HV0.out); have GL11 := Ak (StR.now_cell HV0.out HN3.out HN4.out).1; have GH12 := Ak (StR.now_cell HV0.out HN3.out HN4.out).2.1
 have hu25 := Try.underlying26
 have hu63 := Try.underlying52
 go_enter Try.func51, Try.ntmps51
 go_wp2_with (first | ((with_reducible refine gate_dst (N := 2) rfl ?_); refine ev_box ?hg (N := 2) ?hd (cs := #[.slice (some ⟨g9, 0, none⟩) s0.now.length c0, .slice A1 s0.sure.length c1, .slice (some ⟨g5, 0, none⟩) s0.last.length c2, .slice A3 s0.slast.length c3, .slice (some ⟨g1, 0, none⟩) s0.floors.length c4]) (t := 26) ?hr ?_; (case hd => rfl); (case hg => rfl); (case hr => first | (go_simp; done) | (go_simp; rfl)); intro g2 W13 HG16 BK14 HB15) | ((with_reducible refine gate_dst (N := 3) rfl ?_); refine ev_box ?hg (N := 3) ?hd (cs := #[.int .i64 who, .int .i64 ep, .int .i64 num, .int .i64 obj, .int .i64 at_, .string data]) (t := 52) ?hr ?_; (case hd => rfl); (case hg => rfl); (case hr => first | (go_simp; done) | (go_simp; rfl)); intro g3 W17 HG20 BK18 HB19) | ((with_reducible refine gate_dst (N := 4) rfl ?_); refine ev_box ?hg (N := 4) ?hd (cs := #[.slice none 0 0, .slice none 0 0, .slice none 0 0, .slice none 0 0, .slice none 0 0]) (t := 26) ?hr ?_; (case hd => rfl); (case hg => rfl); (case hr => first | (go_simp; done) | (go_simp; rfl)); intro g4 W21 HG24 BK22 HB23) | ((with_reducible refine gate_dst (N := 7) rfl ?_); refine ev_load rfl (N := 7) rfl rfl (g := g3) rfl (cs := #[.int .i64 who, .int .i64 ep, .int .i64 num, .int .i64 obj, .int .i64 at_, .string data]) (Bk.below BK18.out HB23.out) hu63 rfl (by kernel_rfl) ?_))
 refine (spec_l5Req_c HD.out HQ.out).mono ?_
 rintro e W25 ⟨rfl, hb26⟩
 have HB27 := Ak hb26
 clear hb26
 go_wp2_with (fail)
 refine start_ (n := 10) (S := fun w' => Bk w' g3 #[.int .i64 who, .int .i64 ep, .int .i64 num, .int .i64 obj, .int .i64 at_, .string data] 52 ∧ Bk w' g2 #[.slice (some ⟨g9, 0, none⟩) s0.now.length c0, .slice A1 s0.sure.length c1, .slice (some ⟨g5, 0, none⟩) s0.last.length c2, .slice A3 s0.slast.length c3, .slice (some ⟨g1, 0, none⟩) s0.floors.length c4] 26 ∧ w'.cell? ⟨g1, who.toNat, none⟩ = some (.int .i64 (rd s0.floors who))) (ds := []) #[false, false, false, false, false, false, false, false, false, false] (by kernel_rfl) rfl rfl ⟨(show Bk W25 g3 #[.int .i64 who, .int .i64 ep, .int .i64 num, .int .i64 obj, .int .i64 at_, .string data] 52 from (Bk.below BK18.out (below_step HB23.out HB27.out))), (show Bk W25 g2 #[.slice (some ⟨g9, 0, none⟩) s0.now.length c0, .slice A1 s0.sure.length c1, .slice (some ⟨g5, 0, none⟩) s0.last.length c2, .slice A3 s0.slast.length c3, .slice (some ⟨g1, 0, none⟩) s0.floors.length c4] 26 from (Bk.below BK14.out (below_step (below_step HB19.out HB23.out) HB27.out))), (StR.floors_cell (StR.below HV0.out (below_step (below_step (below_step HB15.out HB19.out) HB23.out) HB27.out)) HN0.out HN1.out).2.2.1⟩ (fun hHeld => ?_)
 clear hHeld
 refine world_at (w := W25) (below_drew0 _) (fun W28 HB29 => ?_)
 refine pure_ (i := 0) (N := some 12) (v := ?_) (a' := ?_) #[true, false, false, false, false, false, false, false, false, false] rfl rfl (by kernel_rfl) (fun _ _ _ h => h) (Or.inl ⟨by rfl, ?_⟩) ?_ ?_
 rotate_left
 ·intro w'
  go_simp
  with_reducible rfl
 rotate_left
 ·simp only [Act.put, List.setIfInBounds_toArray, List.set_cons_zero, List.set_cons_succ, i64_w, i32_w]
  rfl
 refine take_ (i := 1) (N := some 13) (v := .int .i64 ep) (a' := ?_) #[true, true, false, false, false, false, false, false, false, false] rfl rfl (by kernel_rfl) (fun _ _ _ h => h) (Or.inl ⟨by rfl, ?_⟩) ⟨(Bk.below BK18.out (below_step (below_step HB23.out HB27.out) HB29.out)), (Bk.below BK14.out (below_step (below_step (below_step HB19.out HB23.out) HB27.out) HB29.out)), (StR.floors_cell (StR.below HV0.out (below_step (below_step (below_step (below_step HB15.out HB19.out) HB23.out) HB27.out) HB29.out)) HN0.out HN1.out).2.2.1⟩ ?_ ?_
 ·rintro w' ⟨s0_, s1_, s2_⟩
  have hc_ : w'.cell? ⟨g3, 1, none⟩ = some (.int .i64 ep) := (Bk.cell s0_ 1).trans rfl
  first | (go_simp; done) | (go_simp; with_reducible rfl) | (go_simp; rfl)
 rotate_left
 ·simp only [Act.put, List.setIfInBounds_toArray, List.set_cons_zero, List.set_cons_succ, i64_w, i32_w]
  rfl
 refine pure_ (i := 2) (N := some 14) (v := ?_) (a' := ?_) #[true, true, true, false, false, false, false, false, false, false] rfl rfl (by kernel_rfl) (fun _ _ _ h => h) (Or.inl ⟨by rfl, ?_⟩) ?_ ?_
 rotate_left
 ·intro w'
  go_simp
  with_reducible rfl
 rotate_left
 ·simp only [Act.put, List.setIfInBounds_toArray, List.set_cons_zero, List.set_cons_succ, i64_w, i32_w]
  rfl
 refine take_ (i := 3) (N := some 15) (v := .slice (some ⟨g1, 0, none⟩) s0.floors.length c4) (a' := ?_) #[true, true, true, true, false, false, false, false, false, false] rfl rfl (by kernel_rfl) (fun _ _ _ h => h) (Or.inl ⟨by rfl, ?_⟩) ⟨(Bk.below BK18.out (below_step (below_step HB23.out HB27.out) HB29.out)), (Bk.below BK14.out (below_step (below_step (below_step HB19.out HB23.out) HB27.out) HB29.out)), (StR.floors_cell (StR.below HV0.out (below_step (below_step (below_step (below_step HB15.out HB19.out) HB23.out) HB27.out) HB29.out)) HN0.out HN1.out).2.2.1⟩ ?_ ?_
 ·rintro w' ⟨s0_, s1_, s2_⟩
  have hc_ : w'.cell? ⟨g2, 4, none⟩ = some (.slice (some ⟨g1, 0, none⟩) s0.floors.length c4) := (Bk.cell s1_ 4).trans rfl
  first | (go_simp; done) | (go_simp; with_reducible rfl) | (go_simp; rfl)
 rotate_left
 ·simp only [Act.put, List.setIfInBounds_toArray, List.set_cons_zero, List.set_cons_succ, i64_w, i32_w]
  rfl
 refine pure_ (i := 4) (N := some 16) (v := ?_) (a' := ?_) #[true, true, true, true, true, false, false, false, false, false] rfl rfl (by kernel_rfl) (fun _ _ _ h => h) (Or.inl ⟨by rfl, ?_⟩) ?_ ?_
 rotate_left
 ·intro w'
  go_simp
  with_reducible rfl
 rotate_left
 ·simp only [Act.put, List.setIfInBounds_toArray, List.set_cons_zero, List.set_cons_succ, i64_w, i32_w]
  rfl
 refine take_ (i := 5) (N := some 17) (v := .int .i64 who) (a' := ?_) #[true, true, true, true, true, true, false, false, false, false] rfl rfl (by kernel_rfl) (fun _ _ _ h => h) (Or.inl ⟨by rfl, ?_⟩) ⟨(Bk.below BK18.out (below_step (below_step HB23.out HB27.out) HB29.out)), (Bk.below BK14.out (below_step (below_step (below_step HB19.out HB23.out) HB27.out) HB29.out)), (StR.floors_cell (StR.below HV0.out (below_step (below_step (below_step (below_step HB15.out HB19.out) HB23.out) HB27.out) HB29.out)) HN0.out HN1.out).2.2.1⟩ ?_ ?_
 ·rintro w' ⟨s0_, s1_, s2_⟩
  have hc_ : w'.cell? ⟨g3, 0, none⟩ = some (.int .i64 who) := (Bk.cell s0_ 0).trans rfl
  first | (go_simp; done) | (go_simp; with_reducible rfl) | (go_simp; rfl)
 rotate_left
 ·simp only [Act.put, List.setIfInBounds_toArray, List.set_cons_zero, List.set_cons_succ, i64_w, i32_w]
  rfl
 refine pure_ (i := 6) (N := some 18) (v := ?_) (a' := ?_) #[true, true, true, true, true, true, true, false, false, false] rfl rfl (by kernel_rfl) (fun _ _ _ h => h) (Or.inl ⟨by rfl, ?_⟩) ?_ ?_
 rotate_left
 ·intro w'
  go_simp
  with_reducible rfl
 rotate_left
 ·simp only [Act.put, List.setIfInBounds_toArray, List.set_cons_zero, List.set_cons_succ, i64_w, i32_w]
  rfl
 refine take_ (i := 7) (N := some 19) (v := .int .i64 (rd s0.floors who)) (a' := ?_) #[true, true, true, true, true, true, true, true, false, false] rfl rfl (by kernel_rfl) (fun _ _ _ h => h) (Or.inl ⟨by rfl, ?_⟩) ⟨(Bk.below BK18.out (below_step (below_step HB23.out HB27.out) HB29.out)), (Bk.below BK14.out (below_step (below_step (below_step HB19.out HB23.out) HB27.out) HB29.out)), (StR.floors_cell (StR.below HV0.out (below_step (below_step (below_step (below_step HB15.out HB19.out) HB23.out) HB27.out) HB29.out)) HN0.out HN1.out).2.2.1⟩ ?_ ?_
 ·rintro w' ⟨s0_, s1_, s2_⟩
  first | (go_simp; done) | (go_simp; with_reducible rfl) | (go_simp; rfl)
 rotate_left
 ·simp only [Act.put, List.setIfInBounds_toArray, List.set_cons_zero, List.set_cons_succ, i64_w, i32_w]
  rfl
 refine pure_ (i := 8) (N := some 20) (v := ?_) (a' := ?_) #[true, true, true, true, true, true, true, true, true, false] rfl rfl (by kernel_rfl) (fun _ _ _ h => h) (Or.inl ⟨by rfl, ?_⟩) ?_ ?_
 rotate_left
 ·intro w'
  go_simp
  with_reducible rfl
 rotate_left
 ·simp only [Act.put, List.setIfInBounds_toArray, List.set_cons_zero, List.set_cons_succ, i64_w, i32_w]
  rfl
 refine pure_ (i := 9) (N := some 11) (v := ?_) (a' := ?_) #[true, true, true, true, true, true, true, true, true, true] rfl rfl (by kernel_rfl) (fun _ _ _ h => h) (Or.inl ⟨by rfl, ?_⟩) ?_ ?_
 rotate_left
 ·intro w'
  go_simp
  with_reducible rfl
 rotate_left
 ·simp only [Act.put, List.setIfInBounds_toArray, List.set_cons_zero, List.set_cons_succ, i64_w, i32_w]
  rfl
 refine done_ (by kernel_rfl) ?_
 go_wp2_with (fail)
 refine start_ (n := 10) (S := fun w' => Bk w' g3 #[.int .i64 who, .int .i64 ep, .int .i64 num, .int .i64 obj, .int .i64 at_, .string data] 52 ∧ Bk w' g2 #[.slice (some ⟨g9, 0, none⟩) s0.now.length c0, .slice A1 s0.sure.length c1, .slice (some ⟨g5, 0, none⟩) s0.last.length c2, .slice A3 s0.slast.length c3, .slice (some ⟨g1, 0, none⟩) s0.floors.length c4] 26 ∧ w'.cell? ⟨g5, who.toNat, none⟩ = some (.int .i64 (rd s0.last who))) (ds := []) #[false, false, false, false, false, false, false, false, false, false] (by kernel_rfl) rfl rfl ⟨(show Bk W28 g3 #[.int .i64 who, .int .i64 ep, .int .i64 num, .int .i64 obj, .int .i64 at_, .string data] 52 from (Bk.below BK18.out (below_step (below_step HB23.out HB27.out) HB29.out))), (show Bk W28 g2 #[.slice (some ⟨g9, 0, none⟩) s0.now.length c0, .slice A1 s0.sure.length c1, .slice (some ⟨g5, 0, none⟩) s0.last.length c2, .slice A3 s0.slast.length c3, .slice (some ⟨g1, 0, none⟩) s0.floors.length c4] 26 from (Bk.below BK14.out (below_step (below_step (below_step HB19.out HB23.out) HB27.out) HB29.out))), (StR.last_cell (StR.below HV0.out (below_step (below_step (below_step (below_step HB15.out HB19.out) HB23.out) HB27.out) HB29.out)) HN0.out HN2.out).2.2.1⟩ (fun hHeld => ?_)
 clear hHeld
 refine world_at (w := W28) (below_drew0 _) (fun W30 HB31 => ?_)
 refine pure_ (i := 0) (N := some 23) (v := ?_) (a' := ?_) #[true, false, false, false, false, false, false, false, false, false] rfl rfl (by kernel_rfl) (fun _ _ _ h => h) (Or.inl ⟨by rfl, ?_⟩) ?_ ?_
 rotate_left
 ·intro w'
  go_simp
  with_reducible rfl
 rotate_left
 ·simp only [Act.put, List.setIfInBounds_toArray, List.set_cons_zero, List.set_cons_succ, i64_w, i32_w]
  rfl
 refine take_ (i := 1) (N := some 24) (v := .int .i64 num) (a' := ?_) #[true, true, false, false, false, false, false, false, false, false] rfl rfl (by kernel_rfl) (fun _ _ _ h => h) (Or.inl ⟨by rfl, ?_⟩) ⟨(Bk.below BK18.out (below_step (below_step (below_step HB23.out HB27.out) HB29.out) HB31.out)), (Bk.below BK14.out (below_step (below_step (below_step (below_step HB19.out HB23.out) HB27.out) HB29.out) HB31.out)), (StR.last_cell (StR.below HV0.out (below_step (below_step (below_step (below_step (below_step HB15.out HB19.out) HB23.out) HB27.out) HB29.out) HB31.out)) HN0.out HN2.out).2.2.1⟩ ?_ ?_
 ·rintro w' ⟨s0_, s1_, s2_⟩
  have hc_ : w'.cell? ⟨g3, 2, none⟩ = some (.int .i64 num) := (Bk.cell s0_ 2).trans rfl
  first | (go_simp; done) | (go_simp; with_reducible rfl) | (go_simp; rfl)
 rotate_left
 ·simp only [Act.put, List.setIfInBounds_toArray, List.set_cons_zero, List.set_cons_succ, i64_w, i32_w]
  rfl
 refine pure_ (i := 2) (N := some 25) (v := ?_) (a' := ?_) #[true, true, true, false, false, false, false, false, false, false] rfl rfl (by kernel_rfl) (fun _ _ _ h => h) (Or.inl ⟨by rfl, ?_⟩) ?_ ?_
 rotate_left
 ·intro w'
  go_simp
  with_reducible rfl
 rotate_left
 ·simp only [Act.put, List.setIfInBounds_toArray, List.set_cons_zero, List.set_cons_succ, i64_w, i32_w]
  rfl
 refine take_ (i := 3) (N := some 26) (v := .slice (some ⟨g5, 0, none⟩) s0.last.length c2) (a' := ?_) #[true, true, true, true, false, false, false, false, false, false] rfl rfl (by kernel_rfl) (fun _ _ _ h => h) (Or.inl ⟨by rfl, ?_⟩) ⟨(Bk.below BK18.out (below_step (below_step (below_step HB23.out HB27.out) HB29.out) HB31.out)), (Bk.below BK14.out (below_step (below_step (below_step (below_step HB19.out HB23.out) HB27.out) HB29.out) HB31.out)), (StR.last_cell (StR.below HV0.out (below_step (below_step (below_step (below_step (below_step HB15.out HB19.out) HB23.out) HB27.out) HB29.out) HB31.out)) HN0.out HN2.out).2.2.1⟩ ?_ ?_
 ·rintro w' ⟨s0_, s1_, s2_⟩
  have hc_ : w'.cell? ⟨g2, 2, none⟩ = some (.slice (some ⟨g5, 0, none⟩) s0.last.length c2) := (Bk.cell s1_ 2).trans rfl
  first | (go_simp; done) | (go_simp; with_reducible rfl) | (go_simp; rfl)
 rotate_left
 ·simp only [Act.put, List.setIfInBounds_toArray, List.set_cons_zero, List.set_cons_succ, i64_w, i32_w]
  rfl
 refine pure_ (i := 4) (N := some 27) (v := ?_) (a' := ?_) #[true, true, true, true, true, false, false, false, false, false] rfl rfl (by kernel_rfl) (fun _ _ _ h => h) (Or.inl ⟨by rfl, ?_⟩) ?_ ?_
 rotate_left
 ·intro w'
  go_simp
  with_reducible rfl
 rotate_left
 ·simp only [Act.put, List.setIfInBounds_toArray, List.set_cons_zero, List.set_cons_succ, i64_w, i32_w]
  rfl
 refine take_ (i := 5) (N := some 28) (v := .int .i64 who) (a' := ?_) #[true, true, true, true, true, true, false, false, false, false] rfl rfl (by kernel_rfl) (fun _ _ _ h => h) (Or.inl ⟨by rfl, ?_⟩) ⟨(Bk.below BK18.out (below_step (below_step (below_step HB23.out HB27.out) HB29.out) HB31.out)), (Bk.below BK14.out (below_step (below_step (below_step (below_step HB19.out HB23.out) HB27.out) HB29.out) HB31.out)), (StR.last_cell (StR.below HV0.out (below_step (below_step (below_step (below_step (below_step HB15.out HB19.out) HB23.out) HB27.out) HB29.out) HB31.out)) HN0.out HN2.out).2.2.1⟩ ?_ ?_
 ·rintro w' ⟨s0_, s1_, s2_⟩
  have hc_ : w'.cell? ⟨g3, 0, none⟩ = some (.int .i64 who) := (Bk.cell s0_ 0).trans rfl
  first | (go_simp; done) | (go_simp; with_reducible rfl) | (go_simp; rfl)
 rotate_left
 ·simp only [Act.put, List.setIfInBounds_toArray, List.set_cons_zero, List.set_cons_succ, i64_w, i32_w]
  rfl
 refine pure_ (i := 6) (N := some 29) (v := ?_) (a' := ?_) #[true, true, true, true, true, true, true, false, false, false] rfl rfl (by kernel_rfl) (fun _ _ _ h => h) (Or.inl ⟨by rfl, ?_⟩) ?_ ?_
 rotate_left
 ·intro w'
  go_simp
  with_reducible rfl
 rotate_left
 ·simp only [Act.put, List.setIfInBounds_toArray, List.set_cons_zero, List.set_cons_succ, i64_w, i32_w]
  rfl
 refine take_ (i := 7) (N := some 30) (v := .int .i64 (rd s0.last who)) (a' := ?_) #[true, true, true, true, true, true, true, true, false, false] rfl rfl (by kernel_rfl) (fun _ _ _ h => h) (Or.inl ⟨by rfl, ?_⟩) ⟨(Bk.below BK18.out (below_step (below_step (below_step HB23.out HB27.out) HB29.out) HB31.out)), (Bk.below BK14.out (below_step (below_step (below_step (below_step HB19.out HB23.out) HB27.out) HB29.out) HB31.out)), (StR.last_cell (StR.below HV0.out (below_step (below_step (below_step (below_step (below_step HB15.out HB19.out) HB23.out) HB27.out) HB29.out) HB31.out)) HN0.out HN2.out).2.2.1⟩ ?_ ?_
 ·rintro w' ⟨s0_, s1_, s2_⟩
  first | (go_simp; done) | (go_simp; with_reducible rfl) | (go_simp; rfl)
 rotate_left
 ·simp only [Act.put, List.setIfInBounds_toArray, List.set_cons_zero, List.set_cons_succ, i64_w, i32_w]
  rfl
 refine pure_ (i := 8) (N := some 31) (v := ?_) (a' := ?_) #[true, true, true, true, true, true, true, true, true, false] rfl rfl (by kernel_rfl) (fun _ _ _ h => h) (Or.inl ⟨by rfl, ?_⟩) ?_ ?_
 rotate_left
 ·intro w'
  go_simp
  with_reducible rfl
 rotate_left
 ·simp only [Act.put, List.setIfInBounds_toArray, List.set_cons_zero, List.set_cons_succ, i64_w, i32_w]
  rfl
 refine pure_ (i := 9) (N := some 22) (v := ?_) (a' := ?_) #[true, true, true, true, true, true, true, true, true, true] rfl rfl (by kernel_rfl) (fun _ _ _ h => h) (Or.inl ⟨by rfl, ?_⟩) ?_ ?_
 rotate_left
 ·intro w'
  go_simp
  with_reducible rfl
 rotate_left
 ·simp only [Act.put, List.setIfInBounds_toArray, List.set_cons_zero, List.set_cons_succ, i64_w, i32_w]
  rfl
 refine done_ (by kernel_rfl) ?_
 go_wp2_with (first | ((with_reducible refine gate_dst (N := 32) rfl ?_); refine ev_load rfl (N := 32) rfl rfl (g := g2) rfl (cs := #[.slice (some ⟨g9, 0, none⟩) s0.now.length c0, .slice A1 s0.sure.length c1, .slice (some ⟨g5, 0, none⟩) s0.last.length c2, .slice A3 s0.slast.length c3, .slice (some ⟨g1, 0, none⟩) s0.floors.length c4]) (Bk.below BK14.out (below_step (below_step (below_step (below_step HB19.out HB23.out) HB27.out) HB29.out) HB31.out)) hu25 rfl (by kernel_rfl) ?_) | ((with_reducible refine gate_store (t := 26) (p := 4) rfl ?_); refine ev_put (by rfl) rfl rfl (g := g4) rfl (cs := #[.slice (some ⟨g9, 0, none⟩) s0.now.length c0, .slice A1 s0.sure.length c1, .slice (some ⟨g5, 0, none⟩) s0.last.length c2, .slice A3 s0.slast.length c3, .slice (some ⟨g1, 0, none⟩) s0.floors.length c4]) rfl (Bk.below BK22.out (below_step (below_step HB27.out HB29.out) HB31.out)) (by kernel_rfl) rfl rfl ?_; intro W32 BK33 HB34 HK35; have z0_ := HLO.out; have z1_ := HHI.out; have z2_ := HB0.out.size; have z3_ := GT2.out; have z4_ := GL3.out; have z5_ := GH4.out; have z6_ := GT6.out; have z7_ := GL7.out; have z8_ := GH8.out; have z9_ := GT10.out; have z10_ := GL11.out; have z11_ := GH12.out; have z12_ := HB15.out.size; have z13_ := HG16.out; have z14_ := BK14.out.lt; have z15_ := HB19.out.size; have z16_ := HG20.out; have z17_ := BK18.out.lt; have z18_ := HB23.out.size; have z19_ := HG24.out; have z20_ := BK22.out.lt; have z21_ := HB27.out.size; have z22_ := HB29.out.size; have z23_ := HB31.out.size; have HB36 := Ak (below_at (below_step HB0.out (below_step (below_step (below_step (below_step (below_step HB15.out HB19.out) HB23.out) HB27.out) HB29.out) HB31.out)) HB34.out (by show w0.heap.size ≤ g4; omega)); have HK37 := Ak (HK35.out); have KP38 := Ak (kept_new (Kept.below KP0.out (below_step (below_step (below_step (below_step (below_step HB15.out HB19.out) HB23.out) HB27.out) HB29.out) HB31.out)) HK37.out (by show w.heap.size ≤ g4; omega)); have F39 := Ak (StR.kept (StR.below HV0.out (below_step (below_step (below_step (below_step (below_step HB15.out HB19.out) HB23.out) HB27.out) HB29.out) HB31.out)) HK37.out (fun k_ h_ => (by obtain ⟨h1_, h2_⟩ := h_; omega))); have F40 := Ak (Bk.kept (Bk.below BK14.out (below_step (below_step (below_step (below_step HB19.out HB23.out) HB27.out) HB29.out) HB31.out)) HK37.out (fun h_ => (by obtain ⟨h1_, h2_⟩ := h_; omega))); have F41 := Ak (Bk.kept (Bk.below BK18.out (below_step (below_step (below_step HB23.out HB27.out) HB29.out) HB31.out)) HK37.out (fun h_ => (by obtain ⟨h1_, h2_⟩ := h_; omega))); have F42 := Ak (BK33.out); clear z0_ z1_ z2_ z3_ z4_ z5_ z6_ z7_ z8_ z9_ z10_ z11_ z12_ z13_ z14_ z15_ z16_ z17_ z18_ z19_ z20_ z21_ z22_ z23_))
 try go_wp2
 refine bodyPost_ret (results_ct rfl _ _ g4 26 #[.slice (some ⟨g9, 0, none⟩) s0.now.length c0, .slice A1 s0.sure.length c1, .slice (some ⟨g5, 0, none⟩) s0.last.length c2, .slice A3 s0.slast.length c3, .slice (some ⟨g1, 0, none⟩) s0.floors.length c4] (0, 0) _ rfl F42.out hu25 rfl (by kernel_rfl)) rfl ?_
 exact ⟨rfl, F39.out, HB36.out, KP38.out⟩
set_option maxHeartbeats 8000000 in
set_option maxRecDepth 100000 in
theorem spec_l5Do_p4 {w0 w : World} {v0 : Value} {s0 : St} {lo hi : Nat} (hB : Below w0.heap.size w0 w) (hv0 : StR w lo hi v0 s0) (hlo : w0.heap.size ≤ lo) (hhi : hi ≤ w.heap.size) (who ep num obj at_ : Int) (data : ByteArray) (hd : data.size ≤ 9223372036854775807) (b0 : 0 ≤ who) (b1 : who < s0.floors.length) (b2 : who < s0.last.length) (b3 : 0 ≤ obj) (b4 : obj < s0.now.length) (b5 : textOk (rdOf ByteArray.empty s0.now obj) = true) (hq : reqOk ⟨who, ep, num, obj, at_, data⟩ = true) (h1 : ¬ ep < rd s0.floors who) (h2 : ¬ num ≤ rd s0.last who) {nx : Int} (hnx : wrap64 (rd s0.last who + 1) = nx) (h3 : nx < num) :
  Calls Try.prog 51 #[v0, .agg #[.int .i64 who, .int .i64 ep, .int .i64 num, .int .i64 obj, .int .i64 at_, .string data]] w fun e w' => e = .returned (.tuple #[v0, .int .i64 4]) ∧ StR w' lo hi v0 s0 ∧ Below w0.heap.size w0 w' ∧ Kept w w' (fun k => lo ≤ k ∧ k < hi) := by
 have HB0 := Ak hB
 have HLO := Ak hlo
 have HHI := Ak hhi
 have HV0 := Ak hv0
 obtain ⟨A0, c0, A1, c1, A2, c2, A3, c3, A4, c4, rfl, _⟩ := hv0.toC
 have KP0 := Ak (Kept.refl w (fun k => lo ≤ k ∧ k < hi))
 clear hB hlo hhi hv0
 have hd1 : decide (ep < rd s0.floors who) = false := decide_eq_false h1
 have hd2 : decide (num ≤ rd s0.last who) = false := decide_eq_false h2
 have hd3 : decide (nx < num) = true := decide_eq_true h3
 clear h1 h2 h3
 have hb0 := eq_true b0
 have HN0 := Ak b0
 have hb1 := eq_true b1
 have HN1 := Ak b1
 have hb2 := eq_true b2
 have HN2 := Ak b2
 have hb3 := eq_true b3
 have HN3 := Ak b3
 have hb4 := eq_true b4
 have HN4 := Ak b4
 have HN5 := Ak b5
 clear b0 b1 b2 b3 b4 b5
 have HD := Ak hd
 have HQ := Ak hq
 clear hd hq
 obtain ⟨g1, rfl⟩ := StR.floors_form HV0.out HN0.out HN1.out; have GT2 := Ak (StR.floors_lt HV0.out); have GL3 := Ak (StR.floors_cell HV0.out HN0.out HN1.out).1; have GH4 := Ak (StR.floors_cell HV0.out HN0.out HN1.out).2.1
 obtain ⟨g5, rfl⟩ := StR.last_form HV0.out HN0.out HN2.out; have GT6 := Ak (StR.last_lt HV0.out); have GL7 := Ak (StR.last_cell HV0.out HN0.out HN2.out).1; have GH8 := Ak (StR.last_cell HV0.out HN0.out HN2.out).2.1
 obtain ⟨g9, rfl⟩ := StR.now_form HV0.out HN3.out HN4.out; have GT10 := Ak (StR.now_lt HV0.out); have GL11 := Ak (StR.now_cell HV0.out HN3.out HN4.out).1; have GH12 := Ak (StR.now_cell HV0.out HN3.out HN4.out).2.1
 have hu25 := Try.underlying26
 have hu63 := Try.underlying52
 go_enter Try.func51, Try.ntmps51
 go_wp2_with (first | ((with_reducible refine gate_dst (N := 2) rfl ?_); refine ev_box ?hg (N := 2) ?hd (cs := #[.slice (some ⟨g9, 0, none⟩) s0.now.length c0, .slice A1 s0.sure.length c1, .slice (some ⟨g5, 0, none⟩) s0.last.length c2, .slice A3 s0.slast.length c3, .slice (some ⟨g1, 0, none⟩) s0.floors.length c4]) (t := 26) ?hr ?_; (case hd => rfl); (case hg => rfl); (case hr => first | (go_simp; done) | (go_simp; rfl)); intro g2 W13 HG16 BK14 HB15) | ((with_reducible refine gate_dst (N := 3) rfl ?_); refine ev_box ?hg (N := 3) ?hd (cs := #[.int .i64 who, .int .i64 ep, .int .i64 num, .int .i64 obj, .int .i64 at_, .string data]) (t := 52) ?hr ?_; (case hd => rfl); (case hg => rfl); (case hr => first | (go_simp; done) | (go_simp; rfl)); intro g3 W17 HG20 BK18 HB19) | ((with_reducible refine gate_dst (N := 4) rfl ?_); refine ev_box ?hg (N := 4) ?hd (cs := #[.slice none 0 0, .slice none 0 0, .slice none 0 0, .slice none 0 0, .slice none 0 0]) (t := 26) ?hr ?_; (case hd => rfl); (case hg => rfl); (case hr => first | (go_simp; done) | (go_simp; rfl)); intro g4 W21 HG24 BK22 HB23) | ((with_reducible refine gate_dst (N := 7) rfl ?_); refine ev_load rfl (N := 7) rfl rfl (g := g3) rfl (cs := #[.int .i64 who, .int .i64 ep, .int .i64 num, .int .i64 obj, .int .i64 at_, .string data]) (Bk.below BK18.out HB23.out) hu63 rfl (by kernel_rfl) ?_))
 refine (spec_l5Req_c HD.out HQ.out).mono ?_
 rintro e W25 ⟨rfl, hb26⟩
 have HB27 := Ak hb26
 clear hb26
 go_wp2_with (fail)
 refine start_ (n := 10) (S := fun w' => Bk w' g3 #[.int .i64 who, .int .i64 ep, .int .i64 num, .int .i64 obj, .int .i64 at_, .string data] 52 ∧ Bk w' g2 #[.slice (some ⟨g9, 0, none⟩) s0.now.length c0, .slice A1 s0.sure.length c1, .slice (some ⟨g5, 0, none⟩) s0.last.length c2, .slice A3 s0.slast.length c3, .slice (some ⟨g1, 0, none⟩) s0.floors.length c4] 26 ∧ w'.cell? ⟨g1, who.toNat, none⟩ = some (.int .i64 (rd s0.floors who))) (ds := []) #[false, false, false, false, false, false, false, false, false, false] (by kernel_rfl) rfl rfl ⟨(show Bk W25 g3 #[.int .i64 who, .int .i64 ep, .int .i64 num, .int .i64 obj, .int .i64 at_, .string data] 52 from (Bk.below BK18.out (below_step HB23.out HB27.out))), (show Bk W25 g2 #[.slice (some ⟨g9, 0, none⟩) s0.now.length c0, .slice A1 s0.sure.length c1, .slice (some ⟨g5, 0, none⟩) s0.last.length c2, .slice A3 s0.slast.length c3, .slice (some ⟨g1, 0, none⟩) s0.floors.length c4] 26 from (Bk.below BK14.out (below_step (below_step HB19.out HB23.out) HB27.out))), (StR.floors_cell (StR.below HV0.out (below_step (below_step (below_step HB15.out HB19.out) HB23.out) HB27.out)) HN0.out HN1.out).2.2.1⟩ (fun hHeld => ?_)
 clear hHeld
 refine world_at (w := W25) (below_drew0 _) (fun W28 HB29 => ?_)
 refine pure_ (i := 0) (N := some 12) (v := ?_) (a' := ?_) #[true, false, false, false, false, false, false, false, false, false] rfl rfl (by kernel_rfl) (fun _ _ _ h => h) (Or.inl ⟨by rfl, ?_⟩) ?_ ?_
 rotate_left
 ·intro w'
  go_simp
  with_reducible rfl
 rotate_left
 ·simp only [Act.put, List.setIfInBounds_toArray, List.set_cons_zero, List.set_cons_succ, i64_w, i32_w]
  rfl
 refine take_ (i := 1) (N := some 13) (v := .int .i64 ep) (a' := ?_) #[true, true, false, false, false, false, false, false, false, false] rfl rfl (by kernel_rfl) (fun _ _ _ h => h) (Or.inl ⟨by rfl, ?_⟩) ⟨(Bk.below BK18.out (below_step (below_step HB23.out HB27.out) HB29.out)), (Bk.below BK14.out (below_step (below_step (below_step HB19.out HB23.out) HB27.out) HB29.out)), (StR.floors_cell (StR.below HV0.out (below_step (below_step (below_step (below_step HB15.out HB19.out) HB23.out) HB27.out) HB29.out)) HN0.out HN1.out).2.2.1⟩ ?_ ?_
 ·rintro w' ⟨s0_, s1_, s2_⟩
  have hc_ : w'.cell? ⟨g3, 1, none⟩ = some (.int .i64 ep) := (Bk.cell s0_ 1).trans rfl
  first | (go_simp; done) | (go_simp; with_reducible rfl) | (go_simp; rfl)
 rotate_left
 ·simp only [Act.put, List.setIfInBounds_toArray, List.set_cons_zero, List.set_cons_succ, i64_w, i32_w]
  rfl
 refine pure_ (i := 2) (N := some 14) (v := ?_) (a' := ?_) #[true, true, true, false, false, false, false, false, false, false] rfl rfl (by kernel_rfl) (fun _ _ _ h => h) (Or.inl ⟨by rfl, ?_⟩) ?_ ?_
 rotate_left
 ·intro w'
  go_simp
  with_reducible rfl
 rotate_left
 ·simp only [Act.put, List.setIfInBounds_toArray, List.set_cons_zero, List.set_cons_succ, i64_w, i32_w]
  rfl
 refine take_ (i := 3) (N := some 15) (v := .slice (some ⟨g1, 0, none⟩) s0.floors.length c4) (a' := ?_) #[true, true, true, true, false, false, false, false, false, false] rfl rfl (by kernel_rfl) (fun _ _ _ h => h) (Or.inl ⟨by rfl, ?_⟩) ⟨(Bk.below BK18.out (below_step (below_step HB23.out HB27.out) HB29.out)), (Bk.below BK14.out (below_step (below_step (below_step HB19.out HB23.out) HB27.out) HB29.out)), (StR.floors_cell (StR.below HV0.out (below_step (below_step (below_step (below_step HB15.out HB19.out) HB23.out) HB27.out) HB29.out)) HN0.out HN1.out).2.2.1⟩ ?_ ?_
 ·rintro w' ⟨s0_, s1_, s2_⟩
  have hc_ : w'.cell? ⟨g2, 4, none⟩ = some (.slice (some ⟨g1, 0, none⟩) s0.floors.length c4) := (Bk.cell s1_ 4).trans rfl
  first | (go_simp; done) | (go_simp; with_reducible rfl) | (go_simp; rfl)
 rotate_left
 ·simp only [Act.put, List.setIfInBounds_toArray, List.set_cons_zero, List.set_cons_succ, i64_w, i32_w]
  rfl
 refine pure_ (i := 4) (N := some 16) (v := ?_) (a' := ?_) #[true, true, true, true, true, false, false, false, false, false] rfl rfl (by kernel_rfl) (fun _ _ _ h => h) (Or.inl ⟨by rfl, ?_⟩) ?_ ?_
 rotate_left
 ·intro w'
  go_simp
  with_reducible rfl
 rotate_left
 ·simp only [Act.put, List.setIfInBounds_toArray, List.set_cons_zero, List.set_cons_succ, i64_w, i32_w]
  rfl
 refine take_ (i := 5) (N := some 17) (v := .int .i64 who) (a' := ?_) #[true, true, true, true, true, true, false, false, false, false] rfl rfl (by kernel_rfl) (fun _ _ _ h => h) (Or.inl ⟨by rfl, ?_⟩) ⟨(Bk.below BK18.out (below_step (below_step HB23.out HB27.out) HB29.out)), (Bk.below BK14.out (below_step (below_step (below_step HB19.out HB23.out) HB27.out) HB29.out)), (StR.floors_cell (StR.below HV0.out (below_step (below_step (below_step (below_step HB15.out HB19.out) HB23.out) HB27.out) HB29.out)) HN0.out HN1.out).2.2.1⟩ ?_ ?_
 ·rintro w' ⟨s0_, s1_, s2_⟩
  have hc_ : w'.cell? ⟨g3, 0, none⟩ = some (.int .i64 who) := (Bk.cell s0_ 0).trans rfl
  first | (go_simp; done) | (go_simp; with_reducible rfl) | (go_simp; rfl)
 rotate_left
 ·simp only [Act.put, List.setIfInBounds_toArray, List.set_cons_zero, List.set_cons_succ, i64_w, i32_w]
  rfl
 refine pure_ (i := 6) (N := some 18) (v := ?_) (a' := ?_) #[true, true, true, true, true, true, true, false, false, false] rfl rfl (by kernel_rfl) (fun _ _ _ h => h) (Or.inl ⟨by rfl, ?_⟩) ?_ ?_
 rotate_left
 ·intro w'
  go_simp
  with_reducible rfl
 rotate_left
 ·simp only [Act.put, List.setIfInBounds_toArray, List.set_cons_zero, List.set_cons_succ, i64_w, i32_w]
  rfl
 refine take_ (i := 7) (N := some 19) (v := .int .i64 (rd s0.floors who)) (a' := ?_) #[true, true, true, true, true, true, true, true, false, false] rfl rfl (by kernel_rfl) (fun _ _ _ h => h) (Or.inl ⟨by rfl, ?_⟩) ⟨(Bk.below BK18.out (below_step (below_step HB23.out HB27.out) HB29.out)), (Bk.below BK14.out (below_step (below_step (below_step HB19.out HB23.out) HB27.out) HB29.out)), (StR.floors_cell (StR.below HV0.out (below_step (below_step (below_step (below_step HB15.out HB19.out) HB23.out) HB27.out) HB29.out)) HN0.out HN1.out).2.2.1⟩ ?_ ?_
 ·rintro w' ⟨s0_, s1_, s2_⟩
  first | (go_simp; done) | (go_simp; with_reducible rfl) | (go_simp; rfl)
 rotate_left
 ·simp only [Act.put, List.setIfInBounds_toArray, List.set_cons_zero, List.set_cons_succ, i64_w, i32_w]
  rfl
 refine pure_ (i := 8) (N := some 20) (v := ?_) (a' := ?_) #[true, true, true, true, true, true, true, true, true, false] rfl rfl (by kernel_rfl) (fun _ _ _ h => h) (Or.inl ⟨by rfl, ?_⟩) ?_ ?_
 rotate_left
 ·intro w'
  go_simp
  with_reducible rfl
 rotate_left
 ·simp only [Act.put, List.setIfInBounds_toArray, List.set_cons_zero, List.set_cons_succ, i64_w, i32_w]
  rfl
 refine pure_ (i := 9) (N := some 11) (v := ?_) (a' := ?_) #[true, true, true, true, true, true, true, true, true, true] rfl rfl (by kernel_rfl) (fun _ _ _ h => h) (Or.inl ⟨by rfl, ?_⟩) ?_ ?_
 rotate_left
 ·intro w'
  go_simp
  with_reducible rfl
 rotate_left
 ·simp only [Act.put, List.setIfInBounds_toArray, List.set_cons_zero, List.set_cons_succ, i64_w, i32_w]
  rfl
 refine done_ (by kernel_rfl) ?_
 go_wp2_with (fail)
 refine start_ (n := 10) (S := fun w' => Bk w' g3 #[.int .i64 who, .int .i64 ep, .int .i64 num, .int .i64 obj, .int .i64 at_, .string data] 52 ∧ Bk w' g2 #[.slice (some ⟨g9, 0, none⟩) s0.now.length c0, .slice A1 s0.sure.length c1, .slice (some ⟨g5, 0, none⟩) s0.last.length c2, .slice A3 s0.slast.length c3, .slice (some ⟨g1, 0, none⟩) s0.floors.length c4] 26 ∧ w'.cell? ⟨g5, who.toNat, none⟩ = some (.int .i64 (rd s0.last who))) (ds := []) #[false, false, false, false, false, false, false, false, false, false] (by kernel_rfl) rfl rfl ⟨(show Bk W28 g3 #[.int .i64 who, .int .i64 ep, .int .i64 num, .int .i64 obj, .int .i64 at_, .string data] 52 from (Bk.below BK18.out (below_step (below_step HB23.out HB27.out) HB29.out))), (show Bk W28 g2 #[.slice (some ⟨g9, 0, none⟩) s0.now.length c0, .slice A1 s0.sure.length c1, .slice (some ⟨g5, 0, none⟩) s0.last.length c2, .slice A3 s0.slast.length c3, .slice (some ⟨g1, 0, none⟩) s0.floors.length c4] 26 from (Bk.below BK14.out (below_step (below_step (below_step HB19.out HB23.out) HB27.out) HB29.out))), (StR.last_cell (StR.below HV0.out (below_step (below_step (below_step (below_step HB15.out HB19.out) HB23.out) HB27.out) HB29.out)) HN0.out HN2.out).2.2.1⟩ (fun hHeld => ?_)
 clear hHeld
 refine world_at (w := W28) (below_drew0 _) (fun W30 HB31 => ?_)
 refine pure_ (i := 0) (N := some 23) (v := ?_) (a' := ?_) #[true, false, false, false, false, false, false, false, false, false] rfl rfl (by kernel_rfl) (fun _ _ _ h => h) (Or.inl ⟨by rfl, ?_⟩) ?_ ?_
 rotate_left
 ·intro w'
  go_simp
  with_reducible rfl
 rotate_left
 ·simp only [Act.put, List.setIfInBounds_toArray, List.set_cons_zero, List.set_cons_succ, i64_w, i32_w]
  rfl
 refine take_ (i := 1) (N := some 24) (v := .int .i64 num) (a' := ?_) #[true, true, false, false, false, false, false, false, false, false] rfl rfl (by kernel_rfl) (fun _ _ _ h => h) (Or.inl ⟨by rfl, ?_⟩) ⟨(Bk.below BK18.out (below_step (below_step (below_step HB23.out HB27.out) HB29.out) HB31.out)), (Bk.below BK14.out (below_step (below_step (below_step (below_step HB19.out HB23.out) HB27.out) HB29.out) HB31.out)), (StR.last_cell (StR.below HV0.out (below_step (below_step (below_step (below_step (below_step HB15.out HB19.out) HB23.out) HB27.out) HB29.out) HB31.out)) HN0.out HN2.out).2.2.1⟩ ?_ ?_
 ·rintro w' ⟨s0_, s1_, s2_⟩
  have hc_ : w'.cell? ⟨g3, 2, none⟩ = some (.int .i64 num) := (Bk.cell s0_ 2).trans rfl
  first | (go_simp; done) | (go_simp; with_reducible rfl) | (go_simp; rfl)
 rotate_left
 ·simp only [Act.put, List.setIfInBounds_toArray, List.set_cons_zero, List.set_cons_succ, i64_w, i32_w]
  rfl
 refine pure_ (i := 2) (N := some 25) (v := ?_) (a' := ?_) #[true, true, true, false, false, false, false, false, false, false] rfl rfl (by kernel_rfl) (fun _ _ _ h => h) (Or.inl ⟨by rfl, ?_⟩) ?_ ?_
 rotate_left
 ·intro w'
  go_simp
  with_reducible rfl
 rotate_left
 ·simp only [Act.put, List.setIfInBounds_toArray, List.set_cons_zero, List.set_cons_succ, i64_w, i32_w]
  rfl
 refine take_ (i := 3) (N := some 26) (v := .slice (some ⟨g5, 0, none⟩) s0.last.length c2) (a' := ?_) #[true, true, true, true, false, false, false, false, false, false] rfl rfl (by kernel_rfl) (fun _ _ _ h => h) (Or.inl ⟨by rfl, ?_⟩) ⟨(Bk.below BK18.out (below_step (below_step (below_step HB23.out HB27.out) HB29.out) HB31.out)), (Bk.below BK14.out (below_step (below_step (below_step (below_step HB19.out HB23.out) HB27.out) HB29.out) HB31.out)), (StR.last_cell (StR.below HV0.out (below_step (below_step (below_step (below_step (below_step HB15.out HB19.out) HB23.out) HB27.out) HB29.out) HB31.out)) HN0.out HN2.out).2.2.1⟩ ?_ ?_
 ·rintro w' ⟨s0_, s1_, s2_⟩
  have hc_ : w'.cell? ⟨g2, 2, none⟩ = some (.slice (some ⟨g5, 0, none⟩) s0.last.length c2) := (Bk.cell s1_ 2).trans rfl
  first | (go_simp; done) | (go_simp; with_reducible rfl) | (go_simp; rfl)
 rotate_left
 ·simp only [Act.put, List.setIfInBounds_toArray, List.set_cons_zero, List.set_cons_succ, i64_w, i32_w]
  rfl
 refine pure_ (i := 4) (N := some 27) (v := ?_) (a' := ?_) #[true, true, true, true, true, false, false, false, false, false] rfl rfl (by kernel_rfl) (fun _ _ _ h => h) (Or.inl ⟨by rfl, ?_⟩) ?_ ?_
 rotate_left
 ·intro w'
  go_simp
  with_reducible rfl
 rotate_left
 ·simp only [Act.put, List.setIfInBounds_toArray, List.set_cons_zero, List.set_cons_succ, i64_w, i32_w]
  rfl
 refine take_ (i := 5) (N := some 28) (v := .int .i64 who) (a' := ?_) #[true, true, true, true, true, true, false, false, false, false] rfl rfl (by kernel_rfl) (fun _ _ _ h => h) (Or.inl ⟨by rfl, ?_⟩) ⟨(Bk.below BK18.out (below_step (below_step (below_step HB23.out HB27.out) HB29.out) HB31.out)), (Bk.below BK14.out (below_step (below_step (below_step (below_step HB19.out HB23.out) HB27.out) HB29.out) HB31.out)), (StR.last_cell (StR.below HV0.out (below_step (below_step (below_step (below_step (below_step HB15.out HB19.out) HB23.out) HB27.out) HB29.out) HB31.out)) HN0.out HN2.out).2.2.1⟩ ?_ ?_
 ·rintro w' ⟨s0_, s1_, s2_⟩
  have hc_ : w'.cell? ⟨g3, 0, none⟩ = some (.int .i64 who) := (Bk.cell s0_ 0).trans rfl
  first | (go_simp; done) | (go_simp; with_reducible rfl) | (go_simp; rfl)
 rotate_left
 ·simp only [Act.put, List.setIfInBounds_toArray, List.set_cons_zero, List.set_cons_succ, i64_w, i32_w]
  rfl
 refine pure_ (i := 6) (N := some 29) (v := ?_) (a' := ?_) #[true, true, true, true, true, true, true, false, false, false] rfl rfl (by kernel_rfl) (fun _ _ _ h => h) (Or.inl ⟨by rfl, ?_⟩) ?_ ?_
 rotate_left
 ·intro w'
  go_simp
  with_reducible rfl
 rotate_left
 ·simp only [Act.put, List.setIfInBounds_toArray, List.set_cons_zero, List.set_cons_succ, i64_w, i32_w]
  rfl
 refine take_ (i := 7) (N := some 30) (v := .int .i64 (rd s0.last who)) (a' := ?_) #[true, true, true, true, true, true, true, true, false, false] rfl rfl (by kernel_rfl) (fun _ _ _ h => h) (Or.inl ⟨by rfl, ?_⟩) ⟨(Bk.below BK18.out (below_step (below_step (below_step HB23.out HB27.out) HB29.out) HB31.out)), (Bk.below BK14.out (below_step (below_step (below_step (below_step HB19.out HB23.out) HB27.out) HB29.out) HB31.out)), (StR.last_cell (StR.below HV0.out (below_step (below_step (below_step (below_step (below_step HB15.out HB19.out) HB23.out) HB27.out) HB29.out) HB31.out)) HN0.out HN2.out).2.2.1⟩ ?_ ?_
 ·rintro w' ⟨s0_, s1_, s2_⟩
  first | (go_simp; done) | (go_simp; with_reducible rfl) | (go_simp; rfl)
 rotate_left
 ·simp only [Act.put, List.setIfInBounds_toArray, List.set_cons_zero, List.set_cons_succ, i64_w, i32_w]
  rfl
 refine pure_ (i := 8) (N := some 31) (v := ?_) (a' := ?_) #[true, true, true, true, true, true, true, true, true, false] rfl rfl (by kernel_rfl) (fun _ _ _ h => h) (Or.inl ⟨by rfl, ?_⟩) ?_ ?_
 rotate_left
 ·intro w'
  go_simp
  with_reducible rfl
 rotate_left
 ·simp only [Act.put, List.setIfInBounds_toArray, List.set_cons_zero, List.set_cons_succ, i64_w, i32_w]
  rfl
 refine pure_ (i := 9) (N := some 22) (v := ?_) (a' := ?_) #[true, true, true, true, true, true, true, true, true, true] rfl rfl (by kernel_rfl) (fun _ _ _ h => h) (Or.inl ⟨by rfl, ?_⟩) ?_ ?_
 rotate_left
 ·intro w'
  go_simp
  with_reducible rfl
 rotate_left
 ·simp only [Act.put, List.setIfInBounds_toArray, List.set_cons_zero, List.set_cons_succ, i64_w, i32_w]
  rfl
 refine done_ (by kernel_rfl) ?_
 go_wp2_with (fail)
 refine start_ (n := 11) (S := fun w' => Bk w' g3 #[.int .i64 who, .int .i64 ep, .int .i64 num, .int .i64 obj, .int .i64 at_, .string data] 52 ∧ Bk w' g2 #[.slice (some ⟨g9, 0, none⟩) s0.now.length c0, .slice A1 s0.sure.length c1, .slice (some ⟨g5, 0, none⟩) s0.last.length c2, .slice A3 s0.slast.length c3, .slice (some ⟨g1, 0, none⟩) s0.floors.length c4] 26 ∧ w'.cell? ⟨g5, who.toNat, none⟩ = some (.int .i64 (rd s0.last who))) (ds := []) #[false, false, false, false, false, false, false, false, false, false, false] (by kernel_rfl) rfl rfl ⟨(show Bk W30 g3 #[.int .i64 who, .int .i64 ep, .int .i64 num, .int .i64 obj, .int .i64 at_, .string data] 52 from (Bk.below BK18.out (below_step (below_step (below_step HB23.out HB27.out) HB29.out) HB31.out))), (show Bk W30 g2 #[.slice (some ⟨g9, 0, none⟩) s0.now.length c0, .slice A1 s0.sure.length c1, .slice (some ⟨g5, 0, none⟩) s0.last.length c2, .slice A3 s0.slast.length c3, .slice (some ⟨g1, 0, none⟩) s0.floors.length c4] 26 from (Bk.below BK14.out (below_step (below_step (below_step (below_step HB19.out HB23.out) HB27.out) HB29.out) HB31.out))), (StR.last_cell (StR.below HV0.out (below_step (below_step (below_step (below_step (below_step HB15.out HB19.out) HB23.out) HB27.out) HB29.out) HB31.out)) HN0.out HN2.out).2.2.1⟩ (fun hHeld => ?_)
 clear hHeld
 refine world_at (w := W30) (below_drew0 _) (fun W32 HB33 => ?_)
 refine pure_ (i := 0) (N := some 34) (v := ?_) (a' := ?_) #[true, false, false, false, false, false, false, false, false, false, false] rfl rfl (by kernel_rfl) (fun _ _ _ h => h) (Or.inl ⟨by rfl, ?_⟩) ?_ ?_
 rotate_left
 ·intro w'
  go_simp
  with_reducible rfl
 rotate_left
 ·simp only [Act.put, List.setIfInBounds_toArray, List.set_cons_zero, List.set_cons_succ, i64_w, i32_w]
  rfl
 refine take_ (i := 1) (N := some 35) (v := .int .i64 num) (a' := ?_) #[true, true, false, false, false, false, false, false, false, false, false] rfl rfl (by kernel_rfl) (fun _ _ _ h => h) (Or.inl ⟨by rfl, ?_⟩) ⟨(Bk.below BK18.out (below_step (below_step (below_step (below_step HB23.out HB27.out) HB29.out) HB31.out) HB33.out)), (Bk.below BK14.out (below_step (below_step (below_step (below_step (below_step HB19.out HB23.out) HB27.out) HB29.out) HB31.out) HB33.out)), (StR.last_cell (StR.below HV0.out (below_step (below_step (below_step (below_step (below_step (below_step HB15.out HB19.out) HB23.out) HB27.out) HB29.out) HB31.out) HB33.out)) HN0.out HN2.out).2.2.1⟩ ?_ ?_
 ·rintro w' ⟨s0_, s1_, s2_⟩
  have hc_ : w'.cell? ⟨g3, 2, none⟩ = some (.int .i64 num) := (Bk.cell s0_ 2).trans rfl
  first | (go_simp; done) | (go_simp; with_reducible rfl) | (go_simp; rfl)
 rotate_left
 ·simp only [Act.put, List.setIfInBounds_toArray, List.set_cons_zero, List.set_cons_succ, i64_w, i32_w]
  rfl
 refine pure_ (i := 2) (N := some 36) (v := ?_) (a' := ?_) #[true, true, true, false, false, false, false, false, false, false, false] rfl rfl (by kernel_rfl) (fun _ _ _ h => h) (Or.inl ⟨by rfl, ?_⟩) ?_ ?_
 rotate_left
 ·intro w'
  go_simp
  with_reducible rfl
 rotate_left
 ·simp only [Act.put, List.setIfInBounds_toArray, List.set_cons_zero, List.set_cons_succ, i64_w, i32_w]
  rfl
 refine take_ (i := 3) (N := some 37) (v := .slice (some ⟨g5, 0, none⟩) s0.last.length c2) (a' := ?_) #[true, true, true, true, false, false, false, false, false, false, false] rfl rfl (by kernel_rfl) (fun _ _ _ h => h) (Or.inl ⟨by rfl, ?_⟩) ⟨(Bk.below BK18.out (below_step (below_step (below_step (below_step HB23.out HB27.out) HB29.out) HB31.out) HB33.out)), (Bk.below BK14.out (below_step (below_step (below_step (below_step (below_step HB19.out HB23.out) HB27.out) HB29.out) HB31.out) HB33.out)), (StR.last_cell (StR.below HV0.out (below_step (below_step (below_step (below_step (below_step (below_step HB15.out HB19.out) HB23.out) HB27.out) HB29.out) HB31.out) HB33.out)) HN0.out HN2.out).2.2.1⟩ ?_ ?_
 ·rintro w' ⟨s0_, s1_, s2_⟩
  have hc_ : w'.cell? ⟨g2, 2, none⟩ = some (.slice (some ⟨g5, 0, none⟩) s0.last.length c2) := (Bk.cell s1_ 2).trans rfl
  first | (go_simp; done) | (go_simp; with_reducible rfl) | (go_simp; rfl)
 rotate_left
 ·simp only [Act.put, List.setIfInBounds_toArray, List.set_cons_zero, List.set_cons_succ, i64_w, i32_w]
  rfl
 refine pure_ (i := 4) (N := some 38) (v := ?_) (a' := ?_) #[true, true, true, true, true, false, false, false, false, false, false] rfl rfl (by kernel_rfl) (fun _ _ _ h => h) (Or.inl ⟨by rfl, ?_⟩) ?_ ?_
 rotate_left
 ·intro w'
  go_simp
  with_reducible rfl
 rotate_left
 ·simp only [Act.put, List.setIfInBounds_toArray, List.set_cons_zero, List.set_cons_succ, i64_w, i32_w]
  rfl
 refine take_ (i := 5) (N := some 39) (v := .int .i64 who) (a' := ?_) #[true, true, true, true, true, true, false, false, false, false, false] rfl rfl (by kernel_rfl) (fun _ _ _ h => h) (Or.inl ⟨by rfl, ?_⟩) ⟨(Bk.below BK18.out (below_step (below_step (below_step (below_step HB23.out HB27.out) HB29.out) HB31.out) HB33.out)), (Bk.below BK14.out (below_step (below_step (below_step (below_step (below_step HB19.out HB23.out) HB27.out) HB29.out) HB31.out) HB33.out)), (StR.last_cell (StR.below HV0.out (below_step (below_step (below_step (below_step (below_step (below_step HB15.out HB19.out) HB23.out) HB27.out) HB29.out) HB31.out) HB33.out)) HN0.out HN2.out).2.2.1⟩ ?_ ?_
 ·rintro w' ⟨s0_, s1_, s2_⟩
  have hc_ : w'.cell? ⟨g3, 0, none⟩ = some (.int .i64 who) := (Bk.cell s0_ 0).trans rfl
  first | (go_simp; done) | (go_simp; with_reducible rfl) | (go_simp; rfl)
 rotate_left
 ·simp only [Act.put, List.setIfInBounds_toArray, List.set_cons_zero, List.set_cons_succ, i64_w, i32_w]
  rfl
 refine pure_ (i := 6) (N := some 40) (v := ?_) (a' := ?_) #[true, true, true, true, true, true, true, false, false, false, false] rfl rfl (by kernel_rfl) (fun _ _ _ h => h) (Or.inl ⟨by rfl, ?_⟩) ?_ ?_
 rotate_left
 ·intro w'
  go_simp
  with_reducible rfl
 rotate_left
 ·simp only [Act.put, List.setIfInBounds_toArray, List.set_cons_zero, List.set_cons_succ, i64_w, i32_w]
  rfl
 refine take_ (i := 7) (N := some 41) (v := .int .i64 (rd s0.last who)) (a' := ?_) #[true, true, true, true, true, true, true, true, false, false, false] rfl rfl (by kernel_rfl) (fun _ _ _ h => h) (Or.inl ⟨by rfl, ?_⟩) ⟨(Bk.below BK18.out (below_step (below_step (below_step (below_step HB23.out HB27.out) HB29.out) HB31.out) HB33.out)), (Bk.below BK14.out (below_step (below_step (below_step (below_step (below_step HB19.out HB23.out) HB27.out) HB29.out) HB31.out) HB33.out)), (StR.last_cell (StR.below HV0.out (below_step (below_step (below_step (below_step (below_step (below_step HB15.out HB19.out) HB23.out) HB27.out) HB29.out) HB31.out) HB33.out)) HN0.out HN2.out).2.2.1⟩ ?_ ?_
 ·rintro w' ⟨s0_, s1_, s2_⟩
  first | (go_simp; done) | (go_simp; with_reducible rfl) | (go_simp; rfl)
 rotate_left
 ·simp only [Act.put, List.setIfInBounds_toArray, List.set_cons_zero, List.set_cons_succ, i64_w, i32_w]
  rfl
 refine pure_ (i := 8) (N := some 42) (v := ?_) (a' := ?_) #[true, true, true, true, true, true, true, true, true, false, false] rfl rfl (by kernel_rfl) (fun _ _ _ h => h) (Or.inl ⟨by rfl, ?_⟩) ?_ ?_
 rotate_left
 ·intro w'
  go_simp
  with_reducible rfl
 rotate_left
 ·simp only [Act.put, List.setIfInBounds_toArray, List.set_cons_zero, List.set_cons_succ, i64_w, i32_w]
  rfl
 refine pure_ (i := 9) (N := some 43) (v := ?_) (a' := ?_) #[true, true, true, true, true, true, true, true, true, true, false] rfl rfl (by kernel_rfl) (fun _ _ _ h => h) (Or.inl ⟨by rfl, ?_⟩) ?_ ?_
 rotate_left
 ·intro w'
  go_simp
  with_reducible rfl
 rotate_left
 ·simp only [Act.put, List.setIfInBounds_toArray, List.set_cons_zero, List.set_cons_succ, i64_w, i32_w]
  rfl
 refine pure_ (i := 10) (N := some 33) (v := ?_) (a' := ?_) #[true, true, true, true, true, true, true, true, true, true, true] rfl rfl (by kernel_rfl) (fun _ _ _ h => h) (Or.inl ⟨by rfl, ?_⟩) ?_ ?_
 rotate_left
 ·intro w'
  go_simp
  with_reducible rfl
 rotate_left
 ·simp only [Act.put, List.setIfInBounds_toArray, List.set_cons_zero, List.set_cons_succ, i64_w, i32_w]
  rfl
 refine done_ (by kernel_rfl) ?_
 go_wp2_with (first | ((with_reducible refine gate_dst (N := 44) rfl ?_); refine ev_load rfl (N := 44) rfl rfl (g := g2) rfl (cs := #[.slice (some ⟨g9, 0, none⟩) s0.now.length c0, .slice A1 s0.sure.length c1, .slice (some ⟨g5, 0, none⟩) s0.last.length c2, .slice A3 s0.slast.length c3, .slice (some ⟨g1, 0, none⟩) s0.floors.length c4]) (Bk.below BK14.out (below_step (below_step (below_step (below_step (below_step HB19.out HB23.out) HB27.out) HB29.out) HB31.out) HB33.out)) hu25 rfl (by kernel_rfl) ?_) | ((with_reducible refine gate_store (t := 26) (p := 4) rfl ?_); refine ev_put (by rfl) rfl rfl (g := g4) rfl (cs := #[.slice (some ⟨g9, 0, none⟩) s0.now.length c0, .slice A1 s0.sure.length c1, .slice (some ⟨g5, 0, none⟩) s0.last.length c2, .slice A3 s0.slast.length c3, .slice (some ⟨g1, 0, none⟩) s0.floors.length c4]) rfl (Bk.below BK22.out (below_step (below_step (below_step HB27.out HB29.out) HB31.out) HB33.out)) (by kernel_rfl) rfl rfl ?_; intro W34 BK35 HB36 HK37; have z0_ := HLO.out; have z1_ := HHI.out; have z2_ := HB0.out.size; have z3_ := GT2.out; have z4_ := GL3.out; have z5_ := GH4.out; have z6_ := GT6.out; have z7_ := GL7.out; have z8_ := GH8.out; have z9_ := GT10.out; have z10_ := GL11.out; have z11_ := GH12.out; have z12_ := HB15.out.size; have z13_ := HG16.out; have z14_ := BK14.out.lt; have z15_ := HB19.out.size; have z16_ := HG20.out; have z17_ := BK18.out.lt; have z18_ := HB23.out.size; have z19_ := HG24.out; have z20_ := BK22.out.lt; have z21_ := HB27.out.size; have z22_ := HB29.out.size; have z23_ := HB31.out.size; have z24_ := HB33.out.size; have HB38 := Ak (below_at (below_step HB0.out (below_step (below_step (below_step (below_step (below_step (below_step HB15.out HB19.out) HB23.out) HB27.out) HB29.out) HB31.out) HB33.out)) HB36.out (by show w0.heap.size ≤ g4; omega)); have HK39 := Ak (HK37.out); have KP40 := Ak (kept_new (Kept.below KP0.out (below_step (below_step (below_step (below_step (below_step (below_step HB15.out HB19.out) HB23.out) HB27.out) HB29.out) HB31.out) HB33.out)) HK39.out (by show w.heap.size ≤ g4; omega)); have F41 := Ak (StR.kept (StR.below HV0.out (below_step (below_step (below_step (below_step (below_step (below_step HB15.out HB19.out) HB23.out) HB27.out) HB29.out) HB31.out) HB33.out)) HK39.out (fun k_ h_ => (by obtain ⟨h1_, h2_⟩ := h_; omega))); have F42 := Ak (Bk.kept (Bk.below BK14.out (below_step (below_step (below_step (below_step (below_step HB19.out HB23.out) HB27.out) HB29.out) HB31.out) HB33.out)) HK39.out (fun h_ => (by obtain ⟨h1_, h2_⟩ := h_; omega))); have F43 := Ak (Bk.kept (Bk.below BK18.out (below_step (below_step (below_step (below_step HB23.out HB27.out) HB29.out) HB31.out) HB33.out)) HK39.out (fun h_ => (by obtain ⟨h1_, h2_⟩ := h_; omega))); have F44 := Ak (BK35.out); clear z0_ z1_ z2_ z3_ z4_ z5_ z6_ z7_ z8_ z9_ z10_ z11_ z12_ z13_ z14_ z15_ z16_ z17_ z18_ z19_ z20_ z21_ z22_ z23_ z24_))
 try go_wp2
 refine bodyPost_ret (results_ct rfl _ _ g4 26 #[.slice (some ⟨g9, 0, none⟩) s0.now.length c0, .slice A1 s0.sure.length c1, .slice (some ⟨g5, 0, none⟩) s0.last.length c2, .slice A3 s0.slast.length c3, .slice (some ⟨g1, 0, none⟩) s0.floors.length c4] (0, 0) _ rfl F44.out hu25 rfl (by kernel_rfl)) rfl ?_
 exact ⟨rfl, F41.out, HB38.out, KP40.out⟩
set_option maxHeartbeats 8000000 in
set_option maxRecDepth 100000 in
theorem spec_l5Do_p5 {w0 w : World} {v0 : Value} {s0 : St} {lo hi : Nat} (hB : Below w0.heap.size w0 w) (hv0 : StR w lo hi v0 s0) (hlo : w0.heap.size ≤ lo) (hhi : hi ≤ w.heap.size) (who ep num obj at_ : Int) (data : ByteArray) (hd : data.size ≤ 9223372036854775807) (b0 : 0 ≤ who) (b1 : who < s0.floors.length) (b2 : who < s0.last.length) (b3 : 0 ≤ obj) (b4 : obj < s0.now.length) (b5 : textOk (rdOf ByteArray.empty s0.now obj) = true) (hq : reqOk ⟨who, ep, num, obj, at_, data⟩ = true) (h1 : ¬ ep < rd s0.floors who) (h2 : ¬ num ≤ rd s0.last who) {nx : Int} (hnx : wrap64 (rd s0.last who + 1) = nx) (h3 : ¬ nx < num) {r : ByteArray} (hr : writeText (rdOf ByteArray.empty s0.now obj) at_.toNat data = r) :
  Calls Try.prog 51 #[v0, .agg #[.int .i64 who, .int .i64 ep, .int .i64 num, .int .i64 obj, .int .i64 at_, .string data]] w fun e w' => e = .returned (.tuple #[v0, .int .i64 0]) ∧ StR w' lo hi v0 { s0 with now := s0.now.set obj.toNat r, last := s0.last.set who.toNat num } ∧ Below w0.heap.size w0 w' ∧ Kept w w' (fun k => lo ≤ k ∧ k < hi) := by
 have HB0 := Ak hB
 have HLO := Ak hlo
 have HHI := Ak hhi
 have HV0 := Ak hv0
 obtain ⟨A0, c0, A1, c1, A2, c2, A3, c3, A4, c4, rfl, _⟩ := hv0.toC
 have KP0 := Ak (Kept.refl w (fun k => lo ≤ k ∧ k < hi))
 clear hB hlo hhi hv0
 have hd1 : decide (ep < rd s0.floors who) = false := decide_eq_false h1
 have hd2 : decide (num ≤ rd s0.last who) = false := decide_eq_false h2
 have hd3 : decide (nx < num) = false := decide_eq_false h3
 have HWR := Ak hr
 clear h1 h2 h3 hr
 have hb0 := eq_true b0
 have HN0 := Ak b0
 have hb1 := eq_true b1
 have HN1 := Ak b1
 have hb2 := eq_true b2
 have HN2 := Ak b2
 have hb3 := eq_true b3
 have HN3 := Ak b3
 have hb4 := eq_true b4
 have HN4 := Ak b4
 have HN5 := Ak b5
 clear b0 b1 b2 b3 b4 b5
 have HD := Ak hd
 have HQ := Ak hq
 clear hd hq
 obtain ⟨g1, rfl⟩ := StR.floors_form HV0.out HN0.out HN1.out; have GT2 := Ak (StR.floors_lt HV0.out); have GL3 := Ak (StR.floors_cell HV0.out HN0.out HN1.out).1; have GH4 := Ak (StR.floors_cell HV0.out HN0.out HN1.out).2.1
 obtain ⟨g5, rfl⟩ := StR.last_form HV0.out HN0.out HN2.out; have GT6 := Ak (StR.last_lt HV0.out); have GL7 := Ak (StR.last_cell HV0.out HN0.out HN2.out).1; have GH8 := Ak (StR.last_cell HV0.out HN0.out HN2.out).2.1
 obtain ⟨g9, rfl⟩ := StR.now_form HV0.out HN3.out HN4.out; have GT10 := Ak (StR.now_lt HV0.out); have GL11 := Ak (StR.now_cell HV0.out HN3.out HN4.out).1; have GH12 := Ak (StR.now_cell HV0.out HN3.out HN4.out).2.1
 have hu25 := Try.underlying26
 have hu63 := Try.underlying52
 go_enter Try.func51, Try.ntmps51
 go_wp2_with (first | ((with_reducible refine gate_dst (N := 2) rfl ?_); refine ev_box ?hg (N := 2) ?hd (cs := #[.slice (some ⟨g9, 0, none⟩) s0.now.length c0, .slice A1 s0.sure.length c1, .slice (some ⟨g5, 0, none⟩) s0.last.length c2, .slice A3 s0.slast.length c3, .slice (some ⟨g1, 0, none⟩) s0.floors.length c4]) (t := 26) ?hr ?_; (case hd => rfl); (case hg => rfl); (case hr => first | (go_simp; done) | (go_simp; rfl)); intro g2 W13 HG16 BK14 HB15) | ((with_reducible refine gate_dst (N := 3) rfl ?_); refine ev_box ?hg (N := 3) ?hd (cs := #[.int .i64 who, .int .i64 ep, .int .i64 num, .int .i64 obj, .int .i64 at_, .string data]) (t := 52) ?hr ?_; (case hd => rfl); (case hg => rfl); (case hr => first | (go_simp; done) | (go_simp; rfl)); intro g3 W17 HG20 BK18 HB19) | ((with_reducible refine gate_dst (N := 4) rfl ?_); refine ev_box ?hg (N := 4) ?hd (cs := #[.slice none 0 0, .slice none 0 0, .slice none 0 0, .slice none 0 0, .slice none 0 0]) (t := 26) ?hr ?_; (case hd => rfl); (case hg => rfl); (case hr => first | (go_simp; done) | (go_simp; rfl)); intro g4 W21 HG24 BK22 HB23) | ((with_reducible refine gate_dst (N := 7) rfl ?_); refine ev_load rfl (N := 7) rfl rfl (g := g3) rfl (cs := #[.int .i64 who, .int .i64 ep, .int .i64 num, .int .i64 obj, .int .i64 at_, .string data]) (Bk.below BK18.out HB23.out) hu63 rfl (by kernel_rfl) ?_))
 refine (spec_l5Req_c HD.out HQ.out).mono ?_
 rintro e W25 ⟨rfl, hb26⟩
 have HB27 := Ak hb26
 clear hb26
 go_wp2_with (fail)
 refine start_ (n := 10) (S := fun w' => Bk w' g3 #[.int .i64 who, .int .i64 ep, .int .i64 num, .int .i64 obj, .int .i64 at_, .string data] 52 ∧ Bk w' g2 #[.slice (some ⟨g9, 0, none⟩) s0.now.length c0, .slice A1 s0.sure.length c1, .slice (some ⟨g5, 0, none⟩) s0.last.length c2, .slice A3 s0.slast.length c3, .slice (some ⟨g1, 0, none⟩) s0.floors.length c4] 26 ∧ w'.cell? ⟨g1, who.toNat, none⟩ = some (.int .i64 (rd s0.floors who))) (ds := []) #[false, false, false, false, false, false, false, false, false, false] (by kernel_rfl) rfl rfl ⟨(show Bk W25 g3 #[.int .i64 who, .int .i64 ep, .int .i64 num, .int .i64 obj, .int .i64 at_, .string data] 52 from (Bk.below BK18.out (below_step HB23.out HB27.out))), (show Bk W25 g2 #[.slice (some ⟨g9, 0, none⟩) s0.now.length c0, .slice A1 s0.sure.length c1, .slice (some ⟨g5, 0, none⟩) s0.last.length c2, .slice A3 s0.slast.length c3, .slice (some ⟨g1, 0, none⟩) s0.floors.length c4] 26 from (Bk.below BK14.out (below_step (below_step HB19.out HB23.out) HB27.out))), (StR.floors_cell (StR.below HV0.out (below_step (below_step (below_step HB15.out HB19.out) HB23.out) HB27.out)) HN0.out HN1.out).2.2.1⟩ (fun hHeld => ?_)
 clear hHeld
 refine world_at (w := W25) (below_drew0 _) (fun W28 HB29 => ?_)
 refine pure_ (i := 0) (N := some 12) (v := ?_) (a' := ?_) #[true, false, false, false, false, false, false, false, false, false] rfl rfl (by kernel_rfl) (fun _ _ _ h => h) (Or.inl ⟨by rfl, ?_⟩) ?_ ?_
 rotate_left
 ·intro w'
  go_simp
  with_reducible rfl
 rotate_left
 ·simp only [Act.put, List.setIfInBounds_toArray, List.set_cons_zero, List.set_cons_succ, i64_w, i32_w]
  rfl
 refine take_ (i := 1) (N := some 13) (v := .int .i64 ep) (a' := ?_) #[true, true, false, false, false, false, false, false, false, false] rfl rfl (by kernel_rfl) (fun _ _ _ h => h) (Or.inl ⟨by rfl, ?_⟩) ⟨(Bk.below BK18.out (below_step (below_step HB23.out HB27.out) HB29.out)), (Bk.below BK14.out (below_step (below_step (below_step HB19.out HB23.out) HB27.out) HB29.out)), (StR.floors_cell (StR.below HV0.out (below_step (below_step (below_step (below_step HB15.out HB19.out) HB23.out) HB27.out) HB29.out)) HN0.out HN1.out).2.2.1⟩ ?_ ?_
 ·rintro w' ⟨s0_, s1_, s2_⟩
  have hc_ : w'.cell? ⟨g3, 1, none⟩ = some (.int .i64 ep) := (Bk.cell s0_ 1).trans rfl
  first | (go_simp; done) | (go_simp; with_reducible rfl) | (go_simp; rfl)
 rotate_left
 ·simp only [Act.put, List.setIfInBounds_toArray, List.set_cons_zero, List.set_cons_succ, i64_w, i32_w]
  rfl
 refine pure_ (i := 2) (N := some 14) (v := ?_) (a' := ?_) #[true, true, true, false, false, false, false, false, false, false] rfl rfl (by kernel_rfl) (fun _ _ _ h => h) (Or.inl ⟨by rfl, ?_⟩) ?_ ?_
 rotate_left
 ·intro w'
  go_simp
  with_reducible rfl
 rotate_left
 ·simp only [Act.put, List.setIfInBounds_toArray, List.set_cons_zero, List.set_cons_succ, i64_w, i32_w]
  rfl
 refine take_ (i := 3) (N := some 15) (v := .slice (some ⟨g1, 0, none⟩) s0.floors.length c4) (a' := ?_) #[true, true, true, true, false, false, false, false, false, false] rfl rfl (by kernel_rfl) (fun _ _ _ h => h) (Or.inl ⟨by rfl, ?_⟩) ⟨(Bk.below BK18.out (below_step (below_step HB23.out HB27.out) HB29.out)), (Bk.below BK14.out (below_step (below_step (below_step HB19.out HB23.out) HB27.out) HB29.out)), (StR.floors_cell (StR.below HV0.out (below_step (below_step (below_step (below_step HB15.out HB19.out) HB23.out) HB27.out) HB29.out)) HN0.out HN1.out).2.2.1⟩ ?_ ?_
 ·rintro w' ⟨s0_, s1_, s2_⟩
  have hc_ : w'.cell? ⟨g2, 4, none⟩ = some (.slice (some ⟨g1, 0, none⟩) s0.floors.length c4) := (Bk.cell s1_ 4).trans rfl
  first | (go_simp; done) | (go_simp; with_reducible rfl) | (go_simp; rfl)
 rotate_left
 ·simp only [Act.put, List.setIfInBounds_toArray, List.set_cons_zero, List.set_cons_succ, i64_w, i32_w]
  rfl
 refine pure_ (i := 4) (N := some 16) (v := ?_) (a' := ?_) #[true, true, true, true, true, false, false, false, false, false] rfl rfl (by kernel_rfl) (fun _ _ _ h => h) (Or.inl ⟨by rfl, ?_⟩) ?_ ?_
 rotate_left
 ·intro w'
  go_simp
  with_reducible rfl
 rotate_left
 ·simp only [Act.put, List.setIfInBounds_toArray, List.set_cons_zero, List.set_cons_succ, i64_w, i32_w]
  rfl
 refine take_ (i := 5) (N := some 17) (v := .int .i64 who) (a' := ?_) #[true, true, true, true, true, true, false, false, false, false] rfl rfl (by kernel_rfl) (fun _ _ _ h => h) (Or.inl ⟨by rfl, ?_⟩) ⟨(Bk.below BK18.out (below_step (below_step HB23.out HB27.out) HB29.out)), (Bk.below BK14.out (below_step (below_step (below_step HB19.out HB23.out) HB27.out) HB29.out)), (StR.floors_cell (StR.below HV0.out (below_step (below_step (below_step (below_step HB15.out HB19.out) HB23.out) HB27.out) HB29.out)) HN0.out HN1.out).2.2.1⟩ ?_ ?_
 ·rintro w' ⟨s0_, s1_, s2_⟩
  have hc_ : w'.cell? ⟨g3, 0, none⟩ = some (.int .i64 who) := (Bk.cell s0_ 0).trans rfl
  first | (go_simp; done) | (go_simp; with_reducible rfl) | (go_simp; rfl)
 rotate_left
 ·simp only [Act.put, List.setIfInBounds_toArray, List.set_cons_zero, List.set_cons_succ, i64_w, i32_w]
  rfl
 refine pure_ (i := 6) (N := some 18) (v := ?_) (a' := ?_) #[true, true, true, true, true, true, true, false, false, false] rfl rfl (by kernel_rfl) (fun _ _ _ h => h) (Or.inl ⟨by rfl, ?_⟩) ?_ ?_
 rotate_left
 ·intro w'
  go_simp
  with_reducible rfl
 rotate_left
 ·simp only [Act.put, List.setIfInBounds_toArray, List.set_cons_zero, List.set_cons_succ, i64_w, i32_w]
  rfl
 refine take_ (i := 7) (N := some 19) (v := .int .i64 (rd s0.floors who)) (a' := ?_) #[true, true, true, true, true, true, true, true, false, false] rfl rfl (by kernel_rfl) (fun _ _ _ h => h) (Or.inl ⟨by rfl, ?_⟩) ⟨(Bk.below BK18.out (below_step (below_step HB23.out HB27.out) HB29.out)), (Bk.below BK14.out (below_step (below_step (below_step HB19.out HB23.out) HB27.out) HB29.out)), (StR.floors_cell (StR.below HV0.out (below_step (below_step (below_step (below_step HB15.out HB19.out) HB23.out) HB27.out) HB29.out)) HN0.out HN1.out).2.2.1⟩ ?_ ?_
 ·rintro w' ⟨s0_, s1_, s2_⟩
  first | (go_simp; done) | (go_simp; with_reducible rfl) | (go_simp; rfl)
 rotate_left
 ·simp only [Act.put, List.setIfInBounds_toArray, List.set_cons_zero, List.set_cons_succ, i64_w, i32_w]
  rfl
 refine pure_ (i := 8) (N := some 20) (v := ?_) (a' := ?_) #[true, true, true, true, true, true, true, true, true, false] rfl rfl (by kernel_rfl) (fun _ _ _ h => h) (Or.inl ⟨by rfl, ?_⟩) ?_ ?_
 rotate_left
 ·intro w'
  go_simp
  with_reducible rfl
 rotate_left
 ·simp only [Act.put, List.setIfInBounds_toArray, List.set_cons_zero, List.set_cons_succ, i64_w, i32_w]
  rfl
 refine pure_ (i := 9) (N := some 11) (v := ?_) (a' := ?_) #[true, true, true, true, true, true, true, true, true, true] rfl rfl (by kernel_rfl) (fun _ _ _ h => h) (Or.inl ⟨by rfl, ?_⟩) ?_ ?_
 rotate_left
 ·intro w'
  go_simp
  with_reducible rfl
 rotate_left
 ·simp only [Act.put, List.setIfInBounds_toArray, List.set_cons_zero, List.set_cons_succ, i64_w, i32_w]
  rfl
 refine done_ (by kernel_rfl) ?_
 go_wp2_with (fail)
 refine start_ (n := 10) (S := fun w' => Bk w' g3 #[.int .i64 who, .int .i64 ep, .int .i64 num, .int .i64 obj, .int .i64 at_, .string data] 52 ∧ Bk w' g2 #[.slice (some ⟨g9, 0, none⟩) s0.now.length c0, .slice A1 s0.sure.length c1, .slice (some ⟨g5, 0, none⟩) s0.last.length c2, .slice A3 s0.slast.length c3, .slice (some ⟨g1, 0, none⟩) s0.floors.length c4] 26 ∧ w'.cell? ⟨g5, who.toNat, none⟩ = some (.int .i64 (rd s0.last who))) (ds := []) #[false, false, false, false, false, false, false, false, false, false] (by kernel_rfl) rfl rfl ⟨(show Bk W28 g3 #[.int .i64 who, .int .i64 ep, .int .i64 num, .int .i64 obj, .int .i64 at_, .string data] 52 from (Bk.below BK18.out (below_step (below_step HB23.out HB27.out) HB29.out))), (show Bk W28 g2 #[.slice (some ⟨g9, 0, none⟩) s0.now.length c0, .slice A1 s0.sure.length c1, .slice (some ⟨g5, 0, none⟩) s0.last.length c2, .slice A3 s0.slast.length c3, .slice (some ⟨g1, 0, none⟩) s0.floors.length c4] 26 from (Bk.below BK14.out (below_step (below_step (below_step HB19.out HB23.out) HB27.out) HB29.out))), (StR.last_cell (StR.below HV0.out (below_step (below_step (below_step (below_step HB15.out HB19.out) HB23.out) HB27.out) HB29.out)) HN0.out HN2.out).2.2.1⟩ (fun hHeld => ?_)
 clear hHeld
 refine world_at (w := W28) (below_drew0 _) (fun W30 HB31 => ?_)
 refine pure_ (i := 0) (N := some 23) (v := ?_) (a' := ?_) #[true, false, false, false, false, false, false, false, false, false] rfl rfl (by kernel_rfl) (fun _ _ _ h => h) (Or.inl ⟨by rfl, ?_⟩) ?_ ?_
 rotate_left
 ·intro w'
  go_simp
  with_reducible rfl
 rotate_left
 ·simp only [Act.put, List.setIfInBounds_toArray, List.set_cons_zero, List.set_cons_succ, i64_w, i32_w]
  rfl
 refine take_ (i := 1) (N := some 24) (v := .int .i64 num) (a' := ?_) #[true, true, false, false, false, false, false, false, false, false] rfl rfl (by kernel_rfl) (fun _ _ _ h => h) (Or.inl ⟨by rfl, ?_⟩) ⟨(Bk.below BK18.out (below_step (below_step (below_step HB23.out HB27.out) HB29.out) HB31.out)), (Bk.below BK14.out (below_step (below_step (below_step (below_step HB19.out HB23.out) HB27.out) HB29.out) HB31.out)), (StR.last_cell (StR.below HV0.out (below_step (below_step (below_step (below_step (below_step HB15.out HB19.out) HB23.out) HB27.out) HB29.out) HB31.out)) HN0.out HN2.out).2.2.1⟩ ?_ ?_
 ·rintro w' ⟨s0_, s1_, s2_⟩
  have hc_ : w'.cell? ⟨g3, 2, none⟩ = some (.int .i64 num) := (Bk.cell s0_ 2).trans rfl
  first | (go_simp; done) | (go_simp; with_reducible rfl) | (go_simp; rfl)
 rotate_left
 ·simp only [Act.put, List.setIfInBounds_toArray, List.set_cons_zero, List.set_cons_succ, i64_w, i32_w]
  rfl
 refine pure_ (i := 2) (N := some 25) (v := ?_) (a' := ?_) #[true, true, true, false, false, false, false, false, false, false] rfl rfl (by kernel_rfl) (fun _ _ _ h => h) (Or.inl ⟨by rfl, ?_⟩) ?_ ?_
 rotate_left
 ·intro w'
  go_simp
  with_reducible rfl
 rotate_left
 ·simp only [Act.put, List.setIfInBounds_toArray, List.set_cons_zero, List.set_cons_succ, i64_w, i32_w]
  rfl
 refine take_ (i := 3) (N := some 26) (v := .slice (some ⟨g5, 0, none⟩) s0.last.length c2) (a' := ?_) #[true, true, true, true, false, false, false, false, false, false] rfl rfl (by kernel_rfl) (fun _ _ _ h => h) (Or.inl ⟨by rfl, ?_⟩) ⟨(Bk.below BK18.out (below_step (below_step (below_step HB23.out HB27.out) HB29.out) HB31.out)), (Bk.below BK14.out (below_step (below_step (below_step (below_step HB19.out HB23.out) HB27.out) HB29.out) HB31.out)), (StR.last_cell (StR.below HV0.out (below_step (below_step (below_step (below_step (below_step HB15.out HB19.out) HB23.out) HB27.out) HB29.out) HB31.out)) HN0.out HN2.out).2.2.1⟩ ?_ ?_
 ·rintro w' ⟨s0_, s1_, s2_⟩
  have hc_ : w'.cell? ⟨g2, 2, none⟩ = some (.slice (some ⟨g5, 0, none⟩) s0.last.length c2) := (Bk.cell s1_ 2).trans rfl
  first | (go_simp; done) | (go_simp; with_reducible rfl) | (go_simp; rfl)
 rotate_left
 ·simp only [Act.put, List.setIfInBounds_toArray, List.set_cons_zero, List.set_cons_succ, i64_w, i32_w]
  rfl
 refine pure_ (i := 4) (N := some 27) (v := ?_) (a' := ?_) #[true, true, true, true, true, false, false, false, false, false] rfl rfl (by kernel_rfl) (fun _ _ _ h => h) (Or.inl ⟨by rfl, ?_⟩) ?_ ?_
 rotate_left
 ·intro w'
  go_simp
  with_reducible rfl
 rotate_left
 ·simp only [Act.put, List.setIfInBounds_toArray, List.set_cons_zero, List.set_cons_succ, i64_w, i32_w]
  rfl
 refine take_ (i := 5) (N := some 28) (v := .int .i64 who) (a' := ?_) #[true, true, true, true, true, true, false, false, false, false] rfl rfl (by kernel_rfl) (fun _ _ _ h => h) (Or.inl ⟨by rfl, ?_⟩) ⟨(Bk.below BK18.out (below_step (below_step (below_step HB23.out HB27.out) HB29.out) HB31.out)), (Bk.below BK14.out (below_step (below_step (below_step (below_step HB19.out HB23.out) HB27.out) HB29.out) HB31.out)), (StR.last_cell (StR.below HV0.out (below_step (below_step (below_step (below_step (below_step HB15.out HB19.out) HB23.out) HB27.out) HB29.out) HB31.out)) HN0.out HN2.out).2.2.1⟩ ?_ ?_
 ·rintro w' ⟨s0_, s1_, s2_⟩
  have hc_ : w'.cell? ⟨g3, 0, none⟩ = some (.int .i64 who) := (Bk.cell s0_ 0).trans rfl
  first | (go_simp; done) | (go_simp; with_reducible rfl) | (go_simp; rfl)
 rotate_left
 ·simp only [Act.put, List.setIfInBounds_toArray, List.set_cons_zero, List.set_cons_succ, i64_w, i32_w]
  rfl
 refine pure_ (i := 6) (N := some 29) (v := ?_) (a' := ?_) #[true, true, true, true, true, true, true, false, false, false] rfl rfl (by kernel_rfl) (fun _ _ _ h => h) (Or.inl ⟨by rfl, ?_⟩) ?_ ?_
 rotate_left
 ·intro w'
  go_simp
  with_reducible rfl
 rotate_left
 ·simp only [Act.put, List.setIfInBounds_toArray, List.set_cons_zero, List.set_cons_succ, i64_w, i32_w]
  rfl
 refine take_ (i := 7) (N := some 30) (v := .int .i64 (rd s0.last who)) (a' := ?_) #[true, true, true, true, true, true, true, true, false, false] rfl rfl (by kernel_rfl) (fun _ _ _ h => h) (Or.inl ⟨by rfl, ?_⟩) ⟨(Bk.below BK18.out (below_step (below_step (below_step HB23.out HB27.out) HB29.out) HB31.out)), (Bk.below BK14.out (below_step (below_step (below_step (below_step HB19.out HB23.out) HB27.out) HB29.out) HB31.out)), (StR.last_cell (StR.below HV0.out (below_step (below_step (below_step (below_step (below_step HB15.out HB19.out) HB23.out) HB27.out) HB29.out) HB31.out)) HN0.out HN2.out).2.2.1⟩ ?_ ?_
 ·rintro w' ⟨s0_, s1_, s2_⟩
  first | (go_simp; done) | (go_simp; with_reducible rfl) | (go_simp; rfl)
 rotate_left
 ·simp only [Act.put, List.setIfInBounds_toArray, List.set_cons_zero, List.set_cons_succ, i64_w, i32_w]
  rfl
 refine pure_ (i := 8) (N := some 31) (v := ?_) (a' := ?_) #[true, true, true, true, true, true, true, true, true, false] rfl rfl (by kernel_rfl) (fun _ _ _ h => h) (Or.inl ⟨by rfl, ?_⟩) ?_ ?_
 rotate_left
 ·intro w'
  go_simp
  with_reducible rfl
 rotate_left
 ·simp only [Act.put, List.setIfInBounds_toArray, List.set_cons_zero, List.set_cons_succ, i64_w, i32_w]
  rfl
 refine pure_ (i := 9) (N := some 22) (v := ?_) (a' := ?_) #[true, true, true, true, true, true, true, true, true, true] rfl rfl (by kernel_rfl) (fun _ _ _ h => h) (Or.inl ⟨by rfl, ?_⟩) ?_ ?_
 rotate_left
 ·intro w'
  go_simp
  with_reducible rfl
 rotate_left
 ·simp only [Act.put, List.setIfInBounds_toArray, List.set_cons_zero, List.set_cons_succ, i64_w, i32_w]
  rfl
 refine done_ (by kernel_rfl) ?_
 go_wp2_with (fail)
 refine start_ (n := 11) (S := fun w' => Bk w' g3 #[.int .i64 who, .int .i64 ep, .int .i64 num, .int .i64 obj, .int .i64 at_, .string data] 52 ∧ Bk w' g2 #[.slice (some ⟨g9, 0, none⟩) s0.now.length c0, .slice A1 s0.sure.length c1, .slice (some ⟨g5, 0, none⟩) s0.last.length c2, .slice A3 s0.slast.length c3, .slice (some ⟨g1, 0, none⟩) s0.floors.length c4] 26 ∧ w'.cell? ⟨g5, who.toNat, none⟩ = some (.int .i64 (rd s0.last who))) (ds := []) #[false, false, false, false, false, false, false, false, false, false, false] (by kernel_rfl) rfl rfl ⟨(show Bk W30 g3 #[.int .i64 who, .int .i64 ep, .int .i64 num, .int .i64 obj, .int .i64 at_, .string data] 52 from (Bk.below BK18.out (below_step (below_step (below_step HB23.out HB27.out) HB29.out) HB31.out))), (show Bk W30 g2 #[.slice (some ⟨g9, 0, none⟩) s0.now.length c0, .slice A1 s0.sure.length c1, .slice (some ⟨g5, 0, none⟩) s0.last.length c2, .slice A3 s0.slast.length c3, .slice (some ⟨g1, 0, none⟩) s0.floors.length c4] 26 from (Bk.below BK14.out (below_step (below_step (below_step (below_step HB19.out HB23.out) HB27.out) HB29.out) HB31.out))), (StR.last_cell (StR.below HV0.out (below_step (below_step (below_step (below_step (below_step HB15.out HB19.out) HB23.out) HB27.out) HB29.out) HB31.out)) HN0.out HN2.out).2.2.1⟩ (fun hHeld => ?_)
 clear hHeld
 refine world_at (w := W30) (below_drew0 _) (fun W32 HB33 => ?_)
 refine pure_ (i := 0) (N := some 34) (v := ?_) (a' := ?_) #[true, false, false, false, false, false, false, false, false, false, false] rfl rfl (by kernel_rfl) (fun _ _ _ h => h) (Or.inl ⟨by rfl, ?_⟩) ?_ ?_
 rotate_left
 ·intro w'
  go_simp
  with_reducible rfl
 rotate_left
 ·simp only [Act.put, List.setIfInBounds_toArray, List.set_cons_zero, List.set_cons_succ, i64_w, i32_w]
  rfl
 refine take_ (i := 1) (N := some 35) (v := .int .i64 num) (a' := ?_) #[true, true, false, false, false, false, false, false, false, false, false] rfl rfl (by kernel_rfl) (fun _ _ _ h => h) (Or.inl ⟨by rfl, ?_⟩) ⟨(Bk.below BK18.out (below_step (below_step (below_step (below_step HB23.out HB27.out) HB29.out) HB31.out) HB33.out)), (Bk.below BK14.out (below_step (below_step (below_step (below_step (below_step HB19.out HB23.out) HB27.out) HB29.out) HB31.out) HB33.out)), (StR.last_cell (StR.below HV0.out (below_step (below_step (below_step (below_step (below_step (below_step HB15.out HB19.out) HB23.out) HB27.out) HB29.out) HB31.out) HB33.out)) HN0.out HN2.out).2.2.1⟩ ?_ ?_
 ·rintro w' ⟨s0_, s1_, s2_⟩
  have hc_ : w'.cell? ⟨g3, 2, none⟩ = some (.int .i64 num) := (Bk.cell s0_ 2).trans rfl
  first | (go_simp; done) | (go_simp; with_reducible rfl) | (go_simp; rfl)
 rotate_left
 ·simp only [Act.put, List.setIfInBounds_toArray, List.set_cons_zero, List.set_cons_succ, i64_w, i32_w]
  rfl
 refine pure_ (i := 2) (N := some 36) (v := ?_) (a' := ?_) #[true, true, true, false, false, false, false, false, false, false, false] rfl rfl (by kernel_rfl) (fun _ _ _ h => h) (Or.inl ⟨by rfl, ?_⟩) ?_ ?_
 rotate_left
 ·intro w'
  go_simp
  with_reducible rfl
 rotate_left
 ·simp only [Act.put, List.setIfInBounds_toArray, List.set_cons_zero, List.set_cons_succ, i64_w, i32_w]
  rfl
 refine take_ (i := 3) (N := some 37) (v := .slice (some ⟨g5, 0, none⟩) s0.last.length c2) (a' := ?_) #[true, true, true, true, false, false, false, false, false, false, false] rfl rfl (by kernel_rfl) (fun _ _ _ h => h) (Or.inl ⟨by rfl, ?_⟩) ⟨(Bk.below BK18.out (below_step (below_step (below_step (below_step HB23.out HB27.out) HB29.out) HB31.out) HB33.out)), (Bk.below BK14.out (below_step (below_step (below_step (below_step (below_step HB19.out HB23.out) HB27.out) HB29.out) HB31.out) HB33.out)), (StR.last_cell (StR.below HV0.out (below_step (below_step (below_step (below_step (below_step (below_step HB15.out HB19.out) HB23.out) HB27.out) HB29.out) HB31.out) HB33.out)) HN0.out HN2.out).2.2.1⟩ ?_ ?_
 ·rintro w' ⟨s0_, s1_, s2_⟩
  have hc_ : w'.cell? ⟨g2, 2, none⟩ = some (.slice (some ⟨g5, 0, none⟩) s0.last.length c2) := (Bk.cell s1_ 2).trans rfl
  first | (go_simp; done) | (go_simp; with_reducible rfl) | (go_simp; rfl)
 rotate_left
 ·simp only [Act.put, List.setIfInBounds_toArray, List.set_cons_zero, List.set_cons_succ, i64_w, i32_w]
  rfl
 refine pure_ (i := 4) (N := some 38) (v := ?_) (a' := ?_) #[true, true, true, true, true, false, false, false, false, false, false] rfl rfl (by kernel_rfl) (fun _ _ _ h => h) (Or.inl ⟨by rfl, ?_⟩) ?_ ?_
 rotate_left
 ·intro w'
  go_simp
  with_reducible rfl
 rotate_left
 ·simp only [Act.put, List.setIfInBounds_toArray, List.set_cons_zero, List.set_cons_succ, i64_w, i32_w]
  rfl
 refine take_ (i := 5) (N := some 39) (v := .int .i64 who) (a' := ?_) #[true, true, true, true, true, true, false, false, false, false, false] rfl rfl (by kernel_rfl) (fun _ _ _ h => h) (Or.inl ⟨by rfl, ?_⟩) ⟨(Bk.below BK18.out (below_step (below_step (below_step (below_step HB23.out HB27.out) HB29.out) HB31.out) HB33.out)), (Bk.below BK14.out (below_step (below_step (below_step (below_step (below_step HB19.out HB23.out) HB27.out) HB29.out) HB31.out) HB33.out)), (StR.last_cell (StR.below HV0.out (below_step (below_step (below_step (below_step (below_step (below_step HB15.out HB19.out) HB23.out) HB27.out) HB29.out) HB31.out) HB33.out)) HN0.out HN2.out).2.2.1⟩ ?_ ?_
 ·rintro w' ⟨s0_, s1_, s2_⟩
  have hc_ : w'.cell? ⟨g3, 0, none⟩ = some (.int .i64 who) := (Bk.cell s0_ 0).trans rfl
  first | (go_simp; done) | (go_simp; with_reducible rfl) | (go_simp; rfl)
 rotate_left
 ·simp only [Act.put, List.setIfInBounds_toArray, List.set_cons_zero, List.set_cons_succ, i64_w, i32_w]
  rfl
 refine pure_ (i := 6) (N := some 40) (v := ?_) (a' := ?_) #[true, true, true, true, true, true, true, false, false, false, false] rfl rfl (by kernel_rfl) (fun _ _ _ h => h) (Or.inl ⟨by rfl, ?_⟩) ?_ ?_
 rotate_left
 ·intro w'
  go_simp
  with_reducible rfl
 rotate_left
 ·simp only [Act.put, List.setIfInBounds_toArray, List.set_cons_zero, List.set_cons_succ, i64_w, i32_w]
  rfl
 refine take_ (i := 7) (N := some 41) (v := .int .i64 (rd s0.last who)) (a' := ?_) #[true, true, true, true, true, true, true, true, false, false, false] rfl rfl (by kernel_rfl) (fun _ _ _ h => h) (Or.inl ⟨by rfl, ?_⟩) ⟨(Bk.below BK18.out (below_step (below_step (below_step (below_step HB23.out HB27.out) HB29.out) HB31.out) HB33.out)), (Bk.below BK14.out (below_step (below_step (below_step (below_step (below_step HB19.out HB23.out) HB27.out) HB29.out) HB31.out) HB33.out)), (StR.last_cell (StR.below HV0.out (below_step (below_step (below_step (below_step (below_step (below_step HB15.out HB19.out) HB23.out) HB27.out) HB29.out) HB31.out) HB33.out)) HN0.out HN2.out).2.2.1⟩ ?_ ?_
 ·rintro w' ⟨s0_, s1_, s2_⟩
  first | (go_simp; done) | (go_simp; with_reducible rfl) | (go_simp; rfl)
 rotate_left
 ·simp only [Act.put, List.setIfInBounds_toArray, List.set_cons_zero, List.set_cons_succ, i64_w, i32_w]
  rfl
 refine pure_ (i := 8) (N := some 42) (v := ?_) (a' := ?_) #[true, true, true, true, true, true, true, true, true, false, false] rfl rfl (by kernel_rfl) (fun _ _ _ h => h) (Or.inl ⟨by rfl, ?_⟩) ?_ ?_
 rotate_left
 ·intro w'
  go_simp
  with_reducible rfl
 rotate_left
 ·simp only [Act.put, List.setIfInBounds_toArray, List.set_cons_zero, List.set_cons_succ, i64_w, i32_w]
  rfl
 refine pure_ (i := 9) (N := some 43) (v := ?_) (a' := ?_) #[true, true, true, true, true, true, true, true, true, true, false] rfl rfl (by kernel_rfl) (fun _ _ _ h => h) (Or.inl ⟨by rfl, ?_⟩) ?_ ?_
 rotate_left
 ·intro w'
  go_simp
  with_reducible rfl
 rotate_left
 ·simp only [Act.put, List.setIfInBounds_toArray, List.set_cons_zero, List.set_cons_succ, i64_w, i32_w]
  rfl
 refine pure_ (i := 10) (N := some 33) (v := ?_) (a' := ?_) #[true, true, true, true, true, true, true, true, true, true, true] rfl rfl (by kernel_rfl) (fun _ _ _ h => h) (Or.inl ⟨by rfl, ?_⟩) ?_ ?_
 rotate_left
 ·intro w'
  go_simp
  with_reducible rfl
 rotate_left
 ·simp only [Act.put, List.setIfInBounds_toArray, List.set_cons_zero, List.set_cons_succ, i64_w, i32_w]
  rfl
 refine done_ (by kernel_rfl) ?_
 go_wp2_with (fail)
 refine start_ (n := 17) (S := fun w' => Bk w' g2 #[.slice (some ⟨g9, 0, none⟩) s0.now.length c0, .slice A1 s0.sure.length c1, .slice (some ⟨g5, 0, none⟩) s0.last.length c2, .slice A3 s0.slast.length c3, .slice (some ⟨g1, 0, none⟩) s0.floors.length c4] 26 ∧ Bk w' g3 #[.int .i64 who, .int .i64 ep, .int .i64 num, .int .i64 obj, .int .i64 at_, .string data] 52 ∧ w'.cell? ⟨g9, obj.toNat, none⟩ = some (.string (rdOf ByteArray.empty s0.now obj))) (ds := [16]) #[false, false, false, false, false, false, false, false, false, false, false, false, false, false, false, false, false] (by kernel_rfl) rfl rfl ⟨(show Bk W32 g2 #[.slice (some ⟨g9, 0, none⟩) s0.now.length c0, .slice A1 s0.sure.length c1, .slice (some ⟨g5, 0, none⟩) s0.last.length c2, .slice A3 s0.slast.length c3, .slice (some ⟨g1, 0, none⟩) s0.floors.length c4] 26 from (Bk.below BK14.out (below_step (below_step (below_step (below_step (below_step HB19.out HB23.out) HB27.out) HB29.out) HB31.out) HB33.out))), (show Bk W32 g3 #[.int .i64 who, .int .i64 ep, .int .i64 num, .int .i64 obj, .int .i64 at_, .string data] 52 from (Bk.below BK18.out (below_step (below_step (below_step (below_step HB23.out HB27.out) HB29.out) HB31.out) HB33.out))), (StR.now_cell (StR.below HV0.out (below_step (below_step (below_step (below_step (below_step (below_step HB15.out HB19.out) HB23.out) HB27.out) HB29.out) HB31.out) HB33.out)) HN3.out HN4.out).2.2.1⟩ (fun hHeld => ?_)
 clear hHeld
 refine world_at (w := W32) (below_drew0 _) (fun W34 HB35 => ?_)
 refine pure_ (i := 0) (N := some 45) (v := ?_) (a' := ?_) #[true, false, false, false, false, false, false, false, false, false, false, false, false, false, false, false, false] rfl rfl (by kernel_rfl) (fun _ _ _ h => h) (Or.inl ⟨by rfl, ?_⟩) ?_ ?_
 rotate_left
 ·intro w'
  go_simp
  with_reducible rfl
 rotate_left
 ·simp only [Act.put, List.setIfInBounds_toArray, List.set_cons_zero, List.set_cons_succ, i64_w, i32_w]
  rfl
 refine take_ (i := 1) (N := some 46) (v := .slice (some ⟨g9, 0, none⟩) s0.now.length c0) (a' := ?_) #[true, true, false, false, false, false, false, false, false, false, false, false, false, false, false, false, false] rfl rfl (by kernel_rfl) (fun _ _ _ h => h) (Or.inl ⟨by rfl, ?_⟩) ⟨(Bk.below BK14.out (below_step (below_step (below_step (below_step (below_step (below_step HB19.out HB23.out) HB27.out) HB29.out) HB31.out) HB33.out) HB35.out)), (Bk.below BK18.out (below_step (below_step (below_step (below_step (below_step HB23.out HB27.out) HB29.out) HB31.out) HB33.out) HB35.out)), (StR.now_cell (StR.below HV0.out (below_step (below_step (below_step (below_step (below_step (below_step (below_step HB15.out HB19.out) HB23.out) HB27.out) HB29.out) HB31.out) HB33.out) HB35.out)) HN3.out HN4.out).2.2.1⟩ ?_ ?_
 ·rintro w' ⟨s0_, s1_, s2_⟩
  have hc_ : w'.cell? ⟨g2, 0, none⟩ = some (.slice (some ⟨g9, 0, none⟩) s0.now.length c0) := (Bk.cell s0_ 0).trans rfl
  first | (go_simp; done) | (go_simp; with_reducible rfl) | (go_simp; rfl)
 rotate_left
 ·simp only [Act.put, List.setIfInBounds_toArray, List.set_cons_zero, List.set_cons_succ, i64_w, i32_w]
  rfl
 refine pure_ (i := 2) (N := some 47) (v := ?_) (a' := ?_) #[true, true, true, false, false, false, false, false, false, false, false, false, false, false, false, false, false] rfl rfl (by kernel_rfl) (fun _ _ _ h => h) (Or.inl ⟨by rfl, ?_⟩) ?_ ?_
 rotate_left
 ·intro w'
  go_simp
  with_reducible rfl
 rotate_left
 ·simp only [Act.put, List.setIfInBounds_toArray, List.set_cons_zero, List.set_cons_succ, i64_w, i32_w]
  rfl
 refine take_ (i := 3) (N := some 48) (v := .int .i64 obj) (a' := ?_) #[true, true, true, true, false, false, false, false, false, false, false, false, false, false, false, false, false] rfl rfl (by kernel_rfl) (fun _ _ _ h => h) (Or.inl ⟨by rfl, ?_⟩) ⟨(Bk.below BK14.out (below_step (below_step (below_step (below_step (below_step (below_step HB19.out HB23.out) HB27.out) HB29.out) HB31.out) HB33.out) HB35.out)), (Bk.below BK18.out (below_step (below_step (below_step (below_step (below_step HB23.out HB27.out) HB29.out) HB31.out) HB33.out) HB35.out)), (StR.now_cell (StR.below HV0.out (below_step (below_step (below_step (below_step (below_step (below_step (below_step HB15.out HB19.out) HB23.out) HB27.out) HB29.out) HB31.out) HB33.out) HB35.out)) HN3.out HN4.out).2.2.1⟩ ?_ ?_
 ·rintro w' ⟨s0_, s1_, s2_⟩
  have hc_ : w'.cell? ⟨g3, 3, none⟩ = some (.int .i64 obj) := (Bk.cell s1_ 3).trans rfl
  first | (go_simp; done) | (go_simp; with_reducible rfl) | (go_simp; rfl)
 rotate_left
 ·simp only [Act.put, List.setIfInBounds_toArray, List.set_cons_zero, List.set_cons_succ, i64_w, i32_w]
  rfl
 refine pure_ (i := 4) (N := some 49) (v := ?_) (a' := ?_) #[true, true, true, true, true, false, false, false, false, false, false, false, false, false, false, false, false] rfl rfl (by kernel_rfl) (fun _ _ _ h => h) (Or.inl ⟨by rfl, ?_⟩) ?_ ?_
 rotate_left
 ·intro w'
  go_simp
  with_reducible rfl
 rotate_left
 ·simp only [Act.put, List.setIfInBounds_toArray, List.set_cons_zero, List.set_cons_succ, i64_w, i32_w]
  rfl
 refine take_ (i := 5) (N := some 50) (v := .slice (some ⟨g9, 0, none⟩) s0.now.length c0) (a' := ?_) #[true, true, true, true, true, true, false, false, false, false, false, false, false, false, false, false, false] rfl rfl (by kernel_rfl) (fun _ _ _ h => h) (Or.inl ⟨by rfl, ?_⟩) ⟨(Bk.below BK14.out (below_step (below_step (below_step (below_step (below_step (below_step HB19.out HB23.out) HB27.out) HB29.out) HB31.out) HB33.out) HB35.out)), (Bk.below BK18.out (below_step (below_step (below_step (below_step (below_step HB23.out HB27.out) HB29.out) HB31.out) HB33.out) HB35.out)), (StR.now_cell (StR.below HV0.out (below_step (below_step (below_step (below_step (below_step (below_step (below_step HB15.out HB19.out) HB23.out) HB27.out) HB29.out) HB31.out) HB33.out) HB35.out)) HN3.out HN4.out).2.2.1⟩ ?_ ?_
 ·rintro w' ⟨s0_, s1_, s2_⟩
  have hc_ : w'.cell? ⟨g2, 0, none⟩ = some (.slice (some ⟨g9, 0, none⟩) s0.now.length c0) := (Bk.cell s0_ 0).trans rfl
  first | (go_simp; done) | (go_simp; with_reducible rfl) | (go_simp; rfl)
 rotate_left
 ·simp only [Act.put, List.setIfInBounds_toArray, List.set_cons_zero, List.set_cons_succ, i64_w, i32_w]
  rfl
 refine pure_ (i := 6) (N := some 51) (v := ?_) (a' := ?_) #[true, true, true, true, true, true, true, false, false, false, false, false, false, false, false, false, false] rfl rfl (by kernel_rfl) (fun _ _ _ h => h) (Or.inl ⟨by rfl, ?_⟩) ?_ ?_
 rotate_left
 ·intro w'
  go_simp
  with_reducible rfl
 rotate_left
 ·simp only [Act.put, List.setIfInBounds_toArray, List.set_cons_zero, List.set_cons_succ, i64_w, i32_w]
  rfl
 refine take_ (i := 7) (N := some 52) (v := .int .i64 obj) (a' := ?_) #[true, true, true, true, true, true, true, true, false, false, false, false, false, false, false, false, false] rfl rfl (by kernel_rfl) (fun _ _ _ h => h) (Or.inl ⟨by rfl, ?_⟩) ⟨(Bk.below BK14.out (below_step (below_step (below_step (below_step (below_step (below_step HB19.out HB23.out) HB27.out) HB29.out) HB31.out) HB33.out) HB35.out)), (Bk.below BK18.out (below_step (below_step (below_step (below_step (below_step HB23.out HB27.out) HB29.out) HB31.out) HB33.out) HB35.out)), (StR.now_cell (StR.below HV0.out (below_step (below_step (below_step (below_step (below_step (below_step (below_step HB15.out HB19.out) HB23.out) HB27.out) HB29.out) HB31.out) HB33.out) HB35.out)) HN3.out HN4.out).2.2.1⟩ ?_ ?_
 ·rintro w' ⟨s0_, s1_, s2_⟩
  have hc_ : w'.cell? ⟨g3, 3, none⟩ = some (.int .i64 obj) := (Bk.cell s1_ 3).trans rfl
  first | (go_simp; done) | (go_simp; with_reducible rfl) | (go_simp; rfl)
 rotate_left
 ·simp only [Act.put, List.setIfInBounds_toArray, List.set_cons_zero, List.set_cons_succ, i64_w, i32_w]
  rfl
 refine pure_ (i := 8) (N := some 53) (v := ?_) (a' := ?_) #[true, true, true, true, true, true, true, true, true, false, false, false, false, false, false, false, false] rfl rfl (by kernel_rfl) (fun _ _ _ h => h) (Or.inl ⟨by rfl, ?_⟩) ?_ ?_
 rotate_left
 ·intro w'
  go_simp
  with_reducible rfl
 rotate_left
 ·simp only [Act.put, List.setIfInBounds_toArray, List.set_cons_zero, List.set_cons_succ, i64_w, i32_w]
  rfl
 refine take_ (i := 9) (N := some 54) (v := .string (rdOf ByteArray.empty s0.now obj)) (a' := ?_) #[true, true, true, true, true, true, true, true, true, true, false, false, false, false, false, false, false] rfl rfl (by kernel_rfl) (fun _ _ _ h => h) (Or.inl ⟨by rfl, ?_⟩) ⟨(Bk.below BK14.out (below_step (below_step (below_step (below_step (below_step (below_step HB19.out HB23.out) HB27.out) HB29.out) HB31.out) HB33.out) HB35.out)), (Bk.below BK18.out (below_step (below_step (below_step (below_step (below_step HB23.out HB27.out) HB29.out) HB31.out) HB33.out) HB35.out)), (StR.now_cell (StR.below HV0.out (below_step (below_step (below_step (below_step (below_step (below_step (below_step HB15.out HB19.out) HB23.out) HB27.out) HB29.out) HB31.out) HB33.out) HB35.out)) HN3.out HN4.out).2.2.1⟩ ?_ ?_
 ·rintro w' ⟨s0_, s1_, s2_⟩
  first | (go_simp; done) | (go_simp; with_reducible rfl) | (go_simp; rfl)
 rotate_left
 ·simp only [Act.put, List.setIfInBounds_toArray, List.set_cons_zero, List.set_cons_succ, i64_w, i32_w]
  rfl
 refine pure_ (i := 10) (N := some 55) (v := ?_) (a' := ?_) #[true, true, true, true, true, true, true, true, true, true, true, false, false, false, false, false, false] rfl rfl (by kernel_rfl) (fun _ _ _ h => h) (Or.inl ⟨by rfl, ?_⟩) ?_ ?_
 rotate_left
 ·intro w'
  go_simp
  with_reducible rfl
 rotate_left
 ·simp only [Act.put, List.setIfInBounds_toArray, List.set_cons_zero, List.set_cons_succ, i64_w, i32_w]
  rfl
 refine take_ (i := 11) (N := some 56) (v := .int .i64 at_) (a' := ?_) #[true, true, true, true, true, true, true, true, true, true, true, true, false, false, false, false, false] rfl rfl (by kernel_rfl) (fun _ _ _ h => h) (Or.inl ⟨by rfl, ?_⟩) ⟨(Bk.below BK14.out (below_step (below_step (below_step (below_step (below_step (below_step HB19.out HB23.out) HB27.out) HB29.out) HB31.out) HB33.out) HB35.out)), (Bk.below BK18.out (below_step (below_step (below_step (below_step (below_step HB23.out HB27.out) HB29.out) HB31.out) HB33.out) HB35.out)), (StR.now_cell (StR.below HV0.out (below_step (below_step (below_step (below_step (below_step (below_step (below_step HB15.out HB19.out) HB23.out) HB27.out) HB29.out) HB31.out) HB33.out) HB35.out)) HN3.out HN4.out).2.2.1⟩ ?_ ?_
 ·rintro w' ⟨s0_, s1_, s2_⟩
  have hc_ : w'.cell? ⟨g3, 4, none⟩ = some (.int .i64 at_) := (Bk.cell s1_ 4).trans rfl
  first | (go_simp; done) | (go_simp; with_reducible rfl) | (go_simp; rfl)
 rotate_left
 ·simp only [Act.put, List.setIfInBounds_toArray, List.set_cons_zero, List.set_cons_succ, i64_w, i32_w]
  rfl
 refine pure_ (i := 12) (N := some 57) (v := ?_) (a' := ?_) #[true, true, true, true, true, true, true, true, true, true, true, true, true, false, false, false, false] rfl rfl (by kernel_rfl) (fun _ _ _ h => h) (Or.inl ⟨by rfl, ?_⟩) ?_ ?_
 rotate_left
 ·intro w'
  go_simp
  with_reducible rfl
 rotate_left
 ·simp only [Act.put, List.setIfInBounds_toArray, List.set_cons_zero, List.set_cons_succ, i64_w, i32_w]
  rfl
 refine take_ (i := 13) (N := some 58) (v := .string data) (a' := ?_) #[true, true, true, true, true, true, true, true, true, true, true, true, true, true, false, false, false] rfl rfl (by kernel_rfl) (fun _ _ _ h => h) (Or.inl ⟨by rfl, ?_⟩) ⟨(Bk.below BK14.out (below_step (below_step (below_step (below_step (below_step (below_step HB19.out HB23.out) HB27.out) HB29.out) HB31.out) HB33.out) HB35.out)), (Bk.below BK18.out (below_step (below_step (below_step (below_step (below_step HB23.out HB27.out) HB29.out) HB31.out) HB33.out) HB35.out)), (StR.now_cell (StR.below HV0.out (below_step (below_step (below_step (below_step (below_step (below_step (below_step HB15.out HB19.out) HB23.out) HB27.out) HB29.out) HB31.out) HB33.out) HB35.out)) HN3.out HN4.out).2.2.1⟩ ?_ ?_
 ·rintro w' ⟨s0_, s1_, s2_⟩
  have hc_ : w'.cell? ⟨g3, 5, none⟩ = some (.string data) := (Bk.cell s1_ 5).trans rfl
  first | (go_simp; done) | (go_simp; with_reducible rfl) | (go_simp; rfl)
 rotate_left
 ·simp only [Act.put, List.setIfInBounds_toArray, List.set_cons_zero, List.set_cons_succ, i64_w, i32_w]
  rfl
 refine one_ (i := 14) (N := some 59) #[true, true, true, true, true, true, true, true, true, true, true, true, true, true, true, false, false] rfl rfl (by kernel_rfl) (by decide) (fun K hK => ?_)
 refine goes_ Try.func74 (by kernel_rfl) rfl #[.string (rdOf ByteArray.empty s0.now obj), .int .i64 at_, .string data] (by rfl) rfl rfl (by (try simp only [List.map_toArray, List.map_cons, List.map_nil]); first | done | rfl) ?_
 refine (spec_l2Write_c HQ.out HN5.out HWR.out).mono ?_
 rintro e W36 ⟨rfl, hb37⟩
 have HB38 := Ak hb37
 clear hb37
 refine ⟨_, rfl, ?_⟩
 refine hK.out _ _ ⟨(Bk.below BK14.out (below_step (below_step (below_step (below_step (below_step (below_step (below_step HB19.out HB23.out) HB27.out) HB29.out) HB31.out) HB33.out) HB35.out) HB38.out)), (Bk.below BK18.out (below_step (below_step (below_step (below_step (below_step (below_step HB23.out HB27.out) HB29.out) HB31.out) HB33.out) HB35.out) HB38.out)), (StR.now_cell (StR.below HV0.out (below_step (below_step (below_step (below_step (below_step (below_step (below_step (below_step HB15.out HB19.out) HB23.out) HB27.out) HB29.out) HB31.out) HB33.out) HB35.out) HB38.out)) HN3.out HN4.out).2.2.1⟩ (fun hHeld => ?_)
 clear hHeld hK K
 refine norm_ (a' := ?_) ?_ ?_
 rotate_left
 ·show Act.put _ (some 59) _ = _
  simp only [Act.put, List.setIfInBounds_toArray, List.set_cons_zero, List.set_cons_succ, i64_w, i32_w]
  rfl
 refine pure_ (i := 15) (N := some 60) (v := ?_) (a' := ?_) #[true, true, true, true, true, true, true, true, true, true, true, true, true, true, true, true, false] rfl rfl (by kernel_rfl) (fun _ _ _ h => h) (Or.inl ⟨by rfl, ?_⟩) ?_ ?_
 rotate_left
 ·intro w'
  go_simp
  with_reducible rfl
 rotate_left
 ·simp only [Act.put, List.setIfInBounds_toArray, List.set_cons_zero, List.set_cons_succ, i64_w, i32_w]
  rfl
 refine last_ (i := 16) (N := none) #[true, true, true, true, true, true, true, true, true, true, true, true, true, true, true, true, true] rfl rfl (by kernel_rfl) (by decide) (fun K hK => ?_)
 refine skip_ (w1 := W36.setCell ⟨g9, obj.toNat, none⟩ (.string r)) (by rfl) rfl ?_ ?_
 ·have hc_ := (StR.now_cell (StR.below HV0.out (below_step (below_step (below_step (below_step (below_step (below_step (below_step (below_step HB15.out HB19.out) HB23.out) HB27.out) HB29.out) HB31.out) HB33.out) HB35.out) HB38.out)) HN3.out HN4.out).2.2.1
  have hf_ := (StR.now_cell (StR.below HV0.out (below_step (below_step (below_step (below_step (below_step (below_step (below_step (below_step HB15.out HB19.out) HB23.out) HB27.out) HB29.out) HB31.out) HB33.out) HB35.out) HB38.out)) HN3.out HN4.out).2.2.2.1
  first | (go_simp; done) | (go_simp; rfl)
 refine hK.out _ _ ?_
 clear hK K
 refine done_ (by kernel_rfl) ?_
 refine set_event (fun W39 e40 => ?_)
 have z0_ := HLO.out; have z1_ := HHI.out; have z2_ := HB0.out.size; have z3_ := GT2.out; have z4_ := GL3.out; have z5_ := GH4.out; have z6_ := GT6.out; have z7_ := GL7.out; have z8_ := GH8.out; have z9_ := GT10.out; have z10_ := GL11.out; have z11_ := GH12.out; have z12_ := HB15.out.size; have z13_ := HG16.out; have z14_ := BK14.out.lt; have z15_ := HB19.out.size; have z16_ := HG20.out; have z17_ := BK18.out.lt; have z18_ := HB23.out.size; have z19_ := HG24.out; have z20_ := BK22.out.lt; have z21_ := HB27.out.size; have z22_ := HB29.out.size; have z23_ := HB31.out.size; have z24_ := HB33.out.size; have z25_ := HB35.out.size; have z26_ := HB38.out.size; have HB41 := Ak (below_at (below_step HB0.out (below_step (below_step (below_step (below_step (below_step (below_step (below_step (below_step HB15.out HB19.out) HB23.out) HB27.out) HB29.out) HB31.out) HB33.out) HB35.out) HB38.out)) (below_setcell e40) (by show w0.heap.size ≤ g9; omega)); have HK42 := Ak (kept_set e40); have KP43 := Ak (Kept.then_ (Kept.below KP0.out (below_step (below_step (below_step (below_step (below_step (below_step (below_step (below_step HB15.out HB19.out) HB23.out) HB27.out) HB29.out) HB31.out) HB33.out) HB35.out) HB38.out)) HK42.out (fun k_ h_ => Or.inl (by obtain ⟨h1_, h2_⟩ := h_; exact ⟨by omega, by omega⟩))); have F44 := Ak ((StR.now_cell (StR.below HV0.out (below_step (below_step (below_step (below_step (below_step (below_step (below_step (below_step HB15.out HB19.out) HB23.out) HB27.out) HB29.out) HB31.out) HB33.out) HB35.out) HB38.out)) HN3.out HN4.out).2.2.2.2 (r) _ e40); have F45 := Ak (Bk.kept (Bk.below BK14.out (below_step (below_step (below_step (below_step (below_step (below_step (below_step HB19.out HB23.out) HB27.out) HB29.out) HB31.out) HB33.out) HB35.out) HB38.out)) HK42.out (fun h_ => (by obtain ⟨h1_, h2_⟩ := h_; omega))); have F46 := Ak (Bk.kept (Bk.below BK18.out (below_step (below_step (below_step (below_step (below_step (below_step HB23.out HB27.out) HB29.out) HB31.out) HB33.out) HB35.out) HB38.out)) HK42.out (fun h_ => (by obtain ⟨h1_, h2_⟩ := h_; omega))); have F47 := Ak (Bk.kept (Bk.below BK22.out (below_step (below_step (below_step (below_step (below_step HB27.out HB29.out) HB31.out) HB33.out) HB35.out) HB38.out)) HK42.out (fun h_ => (by obtain ⟨h1_, h2_⟩ := h_; omega))); clear z0_ z1_ z2_ z3_ z4_ z5_ z6_ z7_ z8_ z9_ z10_ z11_ z12_ z13_ z14_ z15_ z16_ z17_ z18_ z19_ z20_ z21_ z22_ z23_ z24_ z25_ z26_ e40
 go_wp2_with (first | ((with_reducible refine gate_dst (N := 62) rfl ?_); refine ev_val (by rfl) (v := .slice (some ⟨g5, 0, none⟩) s0.last.length c2) ?hr ?_; (case hr => have hc_ : W39.cell? ⟨g2, 2, none⟩ = some (.slice (some ⟨g5, 0, none⟩) s0.last.length c2) := (Bk.cell F45.out 2).trans rfl; first | (go_simp; done) | (go_simp; rfl))) | ((with_reducible refine gate_dst (N := 64) rfl ?_); refine ev_val (by rfl) (v := .int .i64 who) ?hr ?_; (case hr => have hc_ : W39.cell? ⟨g3, 0, none⟩ = some (.int .i64 who) := (Bk.cell F46.out 0).trans rfl; first | (go_simp; done) | (go_simp; rfl))) | ((with_reducible refine gate_dst (N := 66) rfl ?_); refine ev_val (by rfl) (v := .int .i64 num) ?hr ?_; (case hr => have hc_ : W39.cell? ⟨g3, 2, none⟩ = some (.int .i64 num) := (Bk.cell F46.out 2).trans rfl; first | (go_simp; done) | (go_simp; rfl))) | ((with_reducible refine gate_store (t := 3) (p := 67) rfl ?_); refine ev_setcell (by rfl) rfl (g := g5) (i := who.toNat) (v := .int .i64 num) ?hr ?_; (case hr => have hc_ := (StR.last_cell F44.out HN0.out HN2.out).2.2.1; have hf_ := (StR.last_cell F44.out HN0.out HN2.out).2.2.2.1; first | (go_simp; done) | (go_simp; rfl)); intro W48 e49; have z0_ := HLO.out; have z1_ := HHI.out; have z2_ := HB0.out.size; have z3_ := GT2.out; have z4_ := GL3.out; have z5_ := GH4.out; have z6_ := GT6.out; have z7_ := GL7.out; have z8_ := GH8.out; have z9_ := GT10.out; have z10_ := GL11.out; have z11_ := GH12.out; have z12_ := HB15.out.size; have z13_ := HG16.out; have z14_ := BK14.out.lt; have z15_ := HB19.out.size; have z16_ := HG20.out; have z17_ := BK18.out.lt; have z18_ := HB23.out.size; have z19_ := HG24.out; have z20_ := BK22.out.lt; have z21_ := HB27.out.size; have z22_ := HB29.out.size; have z23_ := HB31.out.size; have z24_ := HB33.out.size; have z25_ := HB35.out.size; have z26_ := HB38.out.size; have z27_ := HB41.out.size; have z28_ := HK42.out.1; have HB50 := Ak (below_at HB41.out (below_setcell e49) (by show w0.heap.size ≤ g5; omega)); have HK51 := Ak (kept_set e49); have KP52 := Ak (Kept.then_ KP43.out HK51.out (fun k_ h_ => Or.inl (by obtain ⟨h1_, h2_⟩ := h_; exact ⟨by omega, by omega⟩))); have F53 := Ak ((StR.last_cell F44.out HN0.out HN2.out).2.2.2.2 (num) _ e49); have F54 := Ak (Bk.kept F45.out HK51.out (fun h_ => (by obtain ⟨h1_, h2_⟩ := h_; omega))); have F55 := Ak (Bk.kept F46.out HK51.out (fun h_ => (by obtain ⟨h1_, h2_⟩ := h_; omega))); have F56 := Ak (Bk.kept F47.out HK51.out (fun h_ => (by obtain ⟨h1_, h2_⟩ := h_; omega))); clear z0_ z1_ z2_ z3_ z4_ z5_ z6_ z7_ z8_ z9_ z10_ z11_ z12_ z13_ z14_ z15_ z16_ z17_ z18_ z19_ z20_ z21_ z22_ z23_ z24_ z25_ z26_ z27_ z28_ e49) | ((with_reducible refine gate_dst (N := 68) rfl ?_); refine ev_load rfl (N := 68) rfl rfl (g := g2) rfl (cs := #[.slice (some ⟨g9, 0, none⟩) s0.now.length c0, .slice A1 s0.sure.length c1, .slice (some ⟨g5, 0, none⟩) s0.last.length c2, .slice A3 s0.slast.length c3, .slice (some ⟨g1, 0, none⟩) s0.floors.length c4]) F54.out hu25 rfl (by kernel_rfl) ?_) | ((with_reducible refine gate_store (t := 26) (p := 4) rfl ?_); refine ev_put (by rfl) rfl rfl (g := g4) rfl (cs := #[.slice (some ⟨g9, 0, none⟩) s0.now.length c0, .slice A1 s0.sure.length c1, .slice (some ⟨g5, 0, none⟩) s0.last.length c2, .slice A3 s0.slast.length c3, .slice (some ⟨g1, 0, none⟩) s0.floors.length c4]) rfl F56.out (by kernel_rfl) rfl rfl ?_; intro W57 BK58 HB59 HK60; have z0_ := HLO.out; have z1_ := HHI.out; have z2_ := HB0.out.size; have z3_ := GT2.out; have z4_ := GL3.out; have z5_ := GH4.out; have z6_ := GT6.out; have z7_ := GL7.out; have z8_ := GH8.out; have z9_ := GT10.out; have z10_ := GL11.out; have z11_ := GH12.out; have z12_ := HB15.out.size; have z13_ := HG16.out; have z14_ := BK14.out.lt; have z15_ := HB19.out.size; have z16_ := HG20.out; have z17_ := BK18.out.lt; have z18_ := HB23.out.size; have z19_ := HG24.out; have z20_ := BK22.out.lt; have z21_ := HB27.out.size; have z22_ := HB29.out.size; have z23_ := HB31.out.size; have z24_ := HB33.out.size; have z25_ := HB35.out.size; have z26_ := HB38.out.size; have z27_ := HB41.out.size; have z28_ := HK42.out.1; have z29_ := HB50.out.size; have z30_ := HK51.out.1; have HB61 := Ak (below_at HB50.out HB59.out (by show w0.heap.size ≤ g4; omega)); have HK62 := Ak (HK60.out); have KP63 := Ak (kept_new KP52.out HK62.out (by show w.heap.size ≤ g4; omega)); have F64 := Ak (StR.kept F53.out HK62.out (fun k_ h_ => (by obtain ⟨h1_, h2_⟩ := h_; omega))); have F65 := Ak (Bk.kept F54.out HK62.out (fun h_ => (by obtain ⟨h1_, h2_⟩ := h_; omega))); have F66 := Ak (Bk.kept F55.out HK62.out (fun h_ => (by obtain ⟨h1_, h2_⟩ := h_; omega))); have F67 := Ak (BK58.out); clear z0_ z1_ z2_ z3_ z4_ z5_ z6_ z7_ z8_ z9_ z10_ z11_ z12_ z13_ z14_ z15_ z16_ z17_ z18_ z19_ z20_ z21_ z22_ z23_ z24_ z25_ z26_ z27_ z28_ z29_ z30_))
 try go_wp2
 refine bodyPost_ret (results_ct rfl _ _ g4 26 #[.slice (some ⟨g9, 0, none⟩) s0.now.length c0, .slice A1 s0.sure.length c1, .slice (some ⟨g5, 0, none⟩) s0.last.length c2, .slice A3 s0.slast.length c3, .slice (some ⟨g1, 0, none⟩) s0.floors.length c4] (0, 0) _ rfl F67.out hu25 rfl (by kernel_rfl)) rfl ?_
 exact ⟨rfl, F64.out, HB61.out, KP63.out⟩
end Go.Proofs.Ytmekkapacbdbeaa.P
namespace Go.Proofs.Ytmekkapacbdbeaa.P
open Go.RowKit Go.Proofs.YtmekkapacbdbeaaW.PrintWords Go.Proofs.YtmekkapacbdbeaaW.PrintLast Go.Proofs.YtmekkapacbdbeaaW.PrintMore
attribute [local go_sem] max2_int min2_int max_two min_two
set_option linter.unusedVariables false
set_option linter.unusedSimpArgs false
end Go.Proofs.Ytmekkapacbdbeaa.P
namespace Go.Proofs.Ytmekkapacbdbeaa.P
open Go.RowKit Go.Proofs.YtmekkapacbdbeaaW.PrintWords Go.Proofs.YtmekkapacbdbeaaW.PrintLast Go.Proofs.YtmekkapacbdbeaaW.PrintMore
attribute [local go_sem] max2_int min2_int max_two min_two
set_option linter.unusedVariables false
set_option linter.unusedSimpArgs false
end Go.Proofs.Ytmekkapacbdbeaa.P
namespace Go.Proofs.Ytmekkapacbdbeaa.P
open Go.RowKit Go.Proofs.YtmekkapacbdbeaaW.PrintWords Go.Proofs.YtmekkapacbdbeaaW.PrintLast Go.Proofs.YtmekkapacbdbeaaW.PrintMore
attribute [local go_sem] max2_int min2_int max_two min_two
set_option linter.unusedVariables false
set_option linter.unusedSimpArgs false
set_option maxHeartbeats 8000000 in
set_option maxRecDepth 100000 in
theorem spec_StoreFence_p0 {w : World} {v0 : Value} {s0 : St} (hv0 : StC w v0 s0) (hz0 : Sized s0) (hs0 : Small s0) (a1 a2 : Int) (hk : stOk s0 = false) :
  Calls Try.prog 43 #[v0, .int .i64 a1, .int .i64 a2] w fun e w' => ∃ u, e = .returned (.tuple #[u, .bool false]) ∧ StR w' w.heap.size w'.heap.size u stNone ∧ Below w.heap.size w w' := by
 have HV0 := Ak hv0
 have HZ0 := Ak hz0
 obtain ⟨A0_0, c0_0, A0_1, c0_1, A0_2, c0_2, A0_3, c0_3, A0_4, c0_4, rfl, _⟩ := hv0
 have HS0 := Ak hs0
 clear hz0 hs0
 have HK := Ak hk
 clear hk
 have hu25 := Try.underlying26
 go_enter Try.func43, Try.ntmps43
 go_wp2_with (first | ((with_reducible refine gate_dst (N := 3) rfl ?_); refine ev_box ?hg (N := 3) ?hd (cs := #[.slice A0_0 s0.now.length c0_0, .slice A0_1 s0.sure.length c0_1, .slice A0_2 s0.last.length c0_2, .slice A0_3 s0.slast.length c0_3, .slice A0_4 s0.floors.length c0_4]) (t := 26) ?hr ?_; (case hd => rfl); (case hg => rfl); (case hr => first | (go_simp; done) | (go_simp; rfl)); intro g3 W1 HG4 BK2 HB3) | ((with_reducible refine gate_dst (N := 6) rfl ?_); refine ev_box ?hg (N := 6) ?hd (cs := #[.slice none 0 0, .slice none 0 0, .slice none 0 0, .slice none 0 0, .slice none 0 0]) (t := 26) ?hr ?_; (case hd => rfl); (case hg => rfl); (case hr => first | (go_simp; done) | (go_simp; rfl)); intro g6 W5 HG8 BK6 HB7) | ((with_reducible refine gate_dst (N := 9) rfl ?_); refine ev_load rfl (N := 9) rfl rfl (g := g3) rfl (cs := #[.slice A0_0 s0.now.length c0_0, .slice A0_1 s0.sure.length c0_1, .slice A0_2 s0.last.length c0_2, .slice A0_3 s0.slast.length c0_3, .slice A0_4 s0.floors.length c0_4]) (Bk.below BK2.out HB7.out) hu25 rfl (by kernel_rfl) ?_))
 refine (spec_StoreOk_q (StC.below HV0.out (below_step HB3.out HB7.out)) HZ0.out HK.out).mono ?_
 rintro e W9 ⟨rfl, hb10⟩
 have HB11 := Ak hb10
 clear hb10
 go_wp2_with (first | ((with_reducible refine gate_store (t := 26) (p := 6) rfl ?_); refine ev_put (by rfl) rfl rfl (g := g6) rfl (cs := #[.slice none 0 0, .slice none 0 0, .slice none 0 0, .slice none 0 0, .slice none 0 0]) rfl (Bk.below BK6.out HB11.out) (by kernel_rfl) rfl rfl ?_; intro W12 BK13 HB14 HK15; have z0_ := HB3.out.size; have z1_ := HG4.out; have z2_ := BK2.out.lt; have z3_ := HB7.out.size; have z4_ := HG8.out; have z5_ := BK6.out.lt; have z6_ := HB11.out.size; have HB16 := Ak (below_at (below_step (below_step HB3.out HB7.out) HB11.out) HB14.out (by show w.heap.size ≤ g6; omega)); have HK17 := Ak (HK15.out); have F18 := Ak (StC.below HV0.out HB16.out); have F19 := Ak (Bk.kept (Bk.below BK2.out (below_step HB7.out HB11.out)) HK17.out (fun h_ => (by obtain ⟨h1_, h2_⟩ := h_; omega))); have F20 := Ak (BK13.out); clear z0_ z1_ z2_ z3_ z4_ z5_ z6_))
 try go_wp2
 refine bodyPost_ret (results_ct rfl _ _ g6 26 #[.slice none 0 0, .slice none 0 0, .slice none 0 0, .slice none 0 0, .slice none 0 0] (0, 0) _ rfl F20.out hu25 rfl (by kernel_rfl)) rfl ?_
 exact ⟨_, rfl, StR.zero _ _, HB16.out⟩
set_option maxHeartbeats 8000000 in
set_option maxRecDepth 100000 in
theorem spec_StoreFence_p1 {w : World} {v0 : Value} {s0 : St} (hv0 : StC w v0 s0) (hz0 : Sized s0) (hs0 : Small s0) (a1 a2 : Int) (hk : stOk s0 = true) (hw : whoOk a1 = false) :
  Calls Try.prog 43 #[v0, .int .i64 a1, .int .i64 a2] w fun e w' => ∃ u, e = .returned (.tuple #[u, .bool false]) ∧ StR w' w.heap.size w'.heap.size u s0 ∧ Below w.heap.size w w' := by
 have HV0 := Ak hv0
 have HZ0 := Ak hz0
 obtain ⟨A0_0, c0_0, A0_1, c0_1, A0_2, c0_2, A0_3, c0_3, A0_4, c0_4, rfl, _⟩ := hv0
 have HS0 := Ak hs0
 clear hz0 hs0
 have HK := Ak hk
 clear hk
 have HW := Ak hw
 clear hw
 have hu25 := Try.underlying26
 go_enter Try.func43, Try.ntmps43
 go_wp2_with (first | ((with_reducible refine gate_dst (N := 3) rfl ?_); refine ev_box ?hg (N := 3) ?hd (cs := #[.slice A0_0 s0.now.length c0_0, .slice A0_1 s0.sure.length c0_1, .slice A0_2 s0.last.length c0_2, .slice A0_3 s0.slast.length c0_3, .slice A0_4 s0.floors.length c0_4]) (t := 26) ?hr ?_; (case hd => rfl); (case hg => rfl); (case hr => first | (go_simp; done) | (go_simp; rfl)); intro g3 W1 HG4 BK2 HB3) | ((with_reducible refine gate_dst (N := 6) rfl ?_); refine ev_box ?hg (N := 6) ?hd (cs := #[.slice none 0 0, .slice none 0 0, .slice none 0 0, .slice none 0 0, .slice none 0 0]) (t := 26) ?hr ?_; (case hd => rfl); (case hg => rfl); (case hr => first | (go_simp; done) | (go_simp; rfl)); intro g6 W5 HG8 BK6 HB7) | ((with_reducible refine gate_dst (N := 9) rfl ?_); refine ev_load rfl (N := 9) rfl rfl (g := g3) rfl (cs := #[.slice A0_0 s0.now.length c0_0, .slice A0_1 s0.sure.length c0_1, .slice A0_2 s0.last.length c0_2, .slice A0_3 s0.slast.length c0_3, .slice A0_4 s0.floors.length c0_4]) (Bk.below BK2.out HB7.out) hu25 rfl (by kernel_rfl) ?_))
 refine (spec_StoreOk_q (StC.below HV0.out (below_step HB3.out HB7.out)) HZ0.out HK.out).mono ?_
 rintro e W9 ⟨rfl, hb10⟩
 have HB11 := Ak hb10
 clear hb10
 go_wp2_with (first | ((with_reducible refine gate_dst (N := 13) rfl ?_); refine ev_load rfl (N := 13) rfl rfl (g := g3) rfl (cs := #[.slice A0_0 s0.now.length c0_0, .slice A0_1 s0.sure.length c0_1, .slice A0_2 s0.last.length c0_2, .slice A0_3 s0.slast.length c0_3, .slice A0_4 s0.floors.length c0_4]) (Bk.below BK2.out (below_step HB7.out HB11.out)) hu25 rfl (by kernel_rfl) ?_))
 refine (spec_l5Copy_c (StC.below HV0.out (below_step (below_step HB3.out HB7.out) HB11.out)) HS0.out).mono ?_
 rintro e W15 ⟨u12, rfl, hr13, hb16⟩
 have HB17 := Ak hb16
 clear hb16
 have HRs14 := Ak hr13
 obtain ⟨as14_0, ds14_0, as14_1, ds14_1, as14_2, ds14_2, as14_3, ds14_3, as14_4, ds14_4, rfl, _⟩ := hr13.toC
 clear hr13
 go_wp2_with (first | ((with_reducible refine gate_dst (N := 8) rfl ?_); refine ev_box ?hg (N := 8) ?hd (cs := #[.slice none 0 0, .slice none 0 0, .slice none 0 0, .slice none 0 0, .slice none 0 0]) (t := 26) ?hr ?_; (case hd => rfl); (case hg => rfl); (case hr => first | (go_simp; done) | (go_simp; rfl)); intro g8 W18 HG21 BK19 HB20) | ((with_reducible refine gate_store (t := 26) (p := 8) rfl ?_); refine ev_put (by rfl) rfl rfl (g := g8) rfl (cs := #[.slice as14_0 s0.now.length ds14_0, .slice as14_1 s0.sure.length ds14_1, .slice as14_2 s0.last.length ds14_2, .slice as14_3 s0.slast.length ds14_3, .slice as14_4 s0.floors.length ds14_4]) rfl BK19.out (by kernel_rfl) rfl rfl ?_; intro W22 BK23 HB24 HK25; have z0_ := HB3.out.size; have z1_ := HG4.out; have z2_ := BK2.out.lt; have z3_ := HB7.out.size; have z4_ := HG8.out; have z5_ := BK6.out.lt; have z6_ := HB11.out.size; have z7_ := HB17.out.size; have z8_ := HB20.out.size; have z9_ := HG21.out; have z10_ := BK19.out.lt; have HB26 := Ak (below_at (below_step (below_step (below_step (below_step HB3.out HB7.out) HB11.out) HB17.out) HB20.out) HB24.out (by show w.heap.size ≤ g8; omega)); have HK27 := Ak (HK25.out); have F28 := Ak (StC.below HV0.out HB26.out); have F29 := Ak (Bk.kept (Bk.below BK2.out (below_step (below_step (below_step HB7.out HB11.out) HB17.out) HB20.out)) HK27.out (fun h_ => (by obtain ⟨h1_, h2_⟩ := h_; omega))); have F30 := Ak (Bk.kept (Bk.below BK6.out (below_step (below_step HB11.out HB17.out) HB20.out)) HK27.out (fun h_ => (by obtain ⟨h1_, h2_⟩ := h_; omega))); have F31 := Ak (StR.kept (StR.below HRs14.out HB20.out) HK27.out (fun k_ h_ => (by obtain ⟨h1_, h2_⟩ := h_; omega))); have F32 := Ak (BK23.out); clear z0_ z1_ z2_ z3_ z4_ z5_ z6_ z7_ z8_ z9_ z10_))
 refine (spec_who_c HW.out).mono ?_
 rintro e W33 ⟨rfl, hb34⟩
 have HB35 := Ak hb34
 clear hb34
 go_wp2_with (first | ((with_reducible refine gate_dst (N := 26) rfl ?_); refine ev_load rfl (N := 26) rfl rfl (g := g8) rfl (cs := #[.slice as14_0 s0.now.length ds14_0, .slice as14_1 s0.sure.length ds14_1, .slice as14_2 s0.last.length ds14_2, .slice as14_3 s0.slast.length ds14_3, .slice as14_4 s0.floors.length ds14_4]) (Bk.below F32.out HB35.out) hu25 rfl (by kernel_rfl) ?_) | ((with_reducible refine gate_store (t := 26) (p := 6) rfl ?_); refine ev_put (by rfl) rfl rfl (g := g6) rfl (cs := #[.slice as14_0 s0.now.length ds14_0, .slice as14_1 s0.sure.length ds14_1, .slice as14_2 s0.last.length ds14_2, .slice as14_3 s0.slast.length ds14_3, .slice as14_4 s0.floors.length ds14_4]) rfl (Bk.below F30.out HB35.out) (by kernel_rfl) rfl rfl ?_; intro W36 BK37 HB38 HK39; have z0_ := HB3.out.size; have z1_ := HG4.out; have z2_ := BK2.out.lt; have z3_ := HB7.out.size; have z4_ := HG8.out; have z5_ := BK6.out.lt; have z6_ := HB11.out.size; have z7_ := HB17.out.size; have z8_ := HB20.out.size; have z9_ := HG21.out; have z10_ := BK19.out.lt; have z11_ := HB26.out.size; have z12_ := HK27.out.1; have z13_ := HB35.out.size; have HB40 := Ak (below_at (below_step HB26.out HB35.out) HB38.out (by show w.heap.size ≤ g6; omega)); have HK41 := Ak (HK39.out); have F42 := Ak (StC.below HV0.out HB40.out); have F43 := Ak (Bk.kept (Bk.below F29.out HB35.out) HK41.out (fun h_ => (by obtain ⟨h1_, h2_⟩ := h_; omega))); have F44 := Ak (BK37.out); have F45 := Ak (StR.kept (StR.below F31.out HB35.out) HK41.out (fun k_ h_ => (by obtain ⟨h1_, h2_⟩ := h_; omega))); have F46 := Ak (Bk.kept (Bk.below F32.out HB35.out) HK41.out (fun h_ => (by obtain ⟨h1_, h2_⟩ := h_; omega))); clear z0_ z1_ z2_ z3_ z4_ z5_ z6_ z7_ z8_ z9_ z10_ z11_ z12_ z13_))
 try go_wp2
 refine bodyPost_ret (results_ct rfl _ _ g6 26 #[.slice as14_0 s0.now.length ds14_0, .slice as14_1 s0.sure.length ds14_1, .slice as14_2 s0.last.length ds14_2, .slice as14_3 s0.slast.length ds14_3, .slice as14_4 s0.floors.length ds14_4] (0, 0) _ rfl F44.out hu25 rfl (by kernel_rfl)) rfl ?_
 exact ⟨_, rfl, StR.widen F45.out (by have z0_ := HB3.out.size; have z1_ := HG4.out; have z2_ := BK2.out.lt; have z3_ := HB7.out.size; have z4_ := HG8.out; have z5_ := BK6.out.lt; have z6_ := HB11.out.size; have z7_ := HB17.out.size; have z8_ := HB20.out.size; have z9_ := HG21.out; have z10_ := BK19.out.lt; have z11_ := HB26.out.size; have z12_ := HK27.out.1; have z13_ := HB35.out.size; have z14_ := HB40.out.size; have z15_ := HK41.out.1; omega) (by have z0_ := HB3.out.size; have z1_ := HG4.out; have z2_ := BK2.out.lt; have z3_ := HB7.out.size; have z4_ := HG8.out; have z5_ := BK6.out.lt; have z6_ := HB11.out.size; have z7_ := HB17.out.size; have z8_ := HB20.out.size; have z9_ := HG21.out; have z10_ := BK19.out.lt; have z11_ := HB26.out.size; have z12_ := HK27.out.1; have z13_ := HB35.out.size; have z14_ := HB40.out.size; have z15_ := HK41.out.1; omega), HB40.out⟩
set_option maxHeartbeats 8000000 in
set_option maxRecDepth 100000 in
theorem spec_StoreFence_p2 {w : World} {v0 : Value} {s0 : St} (hv0 : StC w v0 s0) (hz0 : Sized s0) (hs0 : Small s0) (a1 a2 : Int) (hk : stOk s0 = true) (hw : whoOk a1 = true) (h0 : a2 < 0) :
  Calls Try.prog 43 #[v0, .int .i64 a1, .int .i64 a2] w fun e w' => ∃ u, e = .returned (.tuple #[u, .bool false]) ∧ StR w' w.heap.size w'.heap.size u s0 ∧ Below w.heap.size w w' := by
 have HV0 := Ak hv0
 have HZ0 := Ak hz0
 obtain ⟨A0_0, c0_0, A0_1, c0_1, A0_2, c0_2, A0_3, c0_3, A0_4, c0_4, rfl, _⟩ := hv0
 have HS0 := Ak hs0
 clear hz0 hs0
 have HK := Ak hk
 clear hk
 have HW := Ak hw
 clear hw
 have hd0 : decide (a2 < 0) = true := decide_eq_true h0
 clear h0
 have hu25 := Try.underlying26
 go_enter Try.func43, Try.ntmps43
 go_wp2_with (first | ((with_reducible refine gate_dst (N := 3) rfl ?_); refine ev_box ?hg (N := 3) ?hd (cs := #[.slice A0_0 s0.now.length c0_0, .slice A0_1 s0.sure.length c0_1, .slice A0_2 s0.last.length c0_2, .slice A0_3 s0.slast.length c0_3, .slice A0_4 s0.floors.length c0_4]) (t := 26) ?hr ?_; (case hd => rfl); (case hg => rfl); (case hr => first | (go_simp; done) | (go_simp; rfl)); intro g3 W1 HG4 BK2 HB3) | ((with_reducible refine gate_dst (N := 6) rfl ?_); refine ev_box ?hg (N := 6) ?hd (cs := #[.slice none 0 0, .slice none 0 0, .slice none 0 0, .slice none 0 0, .slice none 0 0]) (t := 26) ?hr ?_; (case hd => rfl); (case hg => rfl); (case hr => first | (go_simp; done) | (go_simp; rfl)); intro g6 W5 HG8 BK6 HB7) | ((with_reducible refine gate_dst (N := 9) rfl ?_); refine ev_load rfl (N := 9) rfl rfl (g := g3) rfl (cs := #[.slice A0_0 s0.now.length c0_0, .slice A0_1 s0.sure.length c0_1, .slice A0_2 s0.last.length c0_2, .slice A0_3 s0.slast.length c0_3, .slice A0_4 s0.floors.length c0_4]) (Bk.below BK2.out HB7.out) hu25 rfl (by kernel_rfl) ?_))
 refine (spec_StoreOk_q (StC.below HV0.out (below_step HB3.out HB7.out)) HZ0.out HK.out).mono ?_
 rintro e W9 ⟨rfl, hb10⟩
 have HB11 := Ak hb10
 clear hb10
 go_wp2_with (first | ((with_reducible refine gate_dst (N := 13) rfl ?_); refine ev_load rfl (N := 13) rfl rfl (g := g3) rfl (cs := #[.slice A0_0 s0.now.length c0_0, .slice A0_1 s0.sure.length c0_1, .slice A0_2 s0.last.length c0_2, .slice A0_3 s0.slast.length c0_3, .slice A0_4 s0.floors.length c0_4]) (Bk.below BK2.out (below_step HB7.out HB11.out)) hu25 rfl (by kernel_rfl) ?_))
 refine (spec_l5Copy_c (StC.below HV0.out (below_step (below_step HB3.out HB7.out) HB11.out)) HS0.out).mono ?_
 rintro e W15 ⟨u12, rfl, hr13, hb16⟩
 have HB17 := Ak hb16
 clear hb16
 have HRs14 := Ak hr13
 obtain ⟨as14_0, ds14_0, as14_1, ds14_1, as14_2, ds14_2, as14_3, ds14_3, as14_4, ds14_4, rfl, _⟩ := hr13.toC
 clear hr13
 go_wp2_with (first | ((with_reducible refine gate_dst (N := 8) rfl ?_); refine ev_box ?hg (N := 8) ?hd (cs := #[.slice none 0 0, .slice none 0 0, .slice none 0 0, .slice none 0 0, .slice none 0 0]) (t := 26) ?hr ?_; (case hd => rfl); (case hg => rfl); (case hr => first | (go_simp; done) | (go_simp; rfl)); intro g8 W18 HG21 BK19 HB20) | ((with_reducible refine gate_store (t := 26) (p := 8) rfl ?_); refine ev_put (by rfl) rfl rfl (g := g8) rfl (cs := #[.slice as14_0 s0.now.length ds14_0, .slice as14_1 s0.sure.length ds14_1, .slice as14_2 s0.last.length ds14_2, .slice as14_3 s0.slast.length ds14_3, .slice as14_4 s0.floors.length ds14_4]) rfl BK19.out (by kernel_rfl) rfl rfl ?_; intro W22 BK23 HB24 HK25; have z0_ := HB3.out.size; have z1_ := HG4.out; have z2_ := BK2.out.lt; have z3_ := HB7.out.size; have z4_ := HG8.out; have z5_ := BK6.out.lt; have z6_ := HB11.out.size; have z7_ := HB17.out.size; have z8_ := HB20.out.size; have z9_ := HG21.out; have z10_ := BK19.out.lt; have HB26 := Ak (below_at (below_step (below_step (below_step (below_step HB3.out HB7.out) HB11.out) HB17.out) HB20.out) HB24.out (by show w.heap.size ≤ g8; omega)); have HK27 := Ak (HK25.out); have F28 := Ak (StC.below HV0.out HB26.out); have F29 := Ak (Bk.kept (Bk.below BK2.out (below_step (below_step (below_step HB7.out HB11.out) HB17.out) HB20.out)) HK27.out (fun h_ => (by obtain ⟨h1_, h2_⟩ := h_; omega))); have F30 := Ak (Bk.kept (Bk.below BK6.out (below_step (below_step HB11.out HB17.out) HB20.out)) HK27.out (fun h_ => (by obtain ⟨h1_, h2_⟩ := h_; omega))); have F31 := Ak (StR.kept (StR.below HRs14.out HB20.out) HK27.out (fun k_ h_ => (by obtain ⟨h1_, h2_⟩ := h_; omega))); have F32 := Ak (BK23.out); clear z0_ z1_ z2_ z3_ z4_ z5_ z6_ z7_ z8_ z9_ z10_))
 refine (spec_who_c HW.out).mono ?_
 rintro e W33 ⟨rfl, hb34⟩
 have HB35 := Ak hb34
 clear hb34
 go_wp2_with (first | ((with_reducible refine gate_dst (N := 26) rfl ?_); refine ev_load rfl (N := 26) rfl rfl (g := g8) rfl (cs := #[.slice as14_0 s0.now.length ds14_0, .slice as14_1 s0.sure.length ds14_1, .slice as14_2 s0.last.length ds14_2, .slice as14_3 s0.slast.length ds14_3, .slice as14_4 s0.floors.length ds14_4]) (Bk.below F32.out HB35.out) hu25 rfl (by kernel_rfl) ?_) | ((with_reducible refine gate_store (t := 26) (p := 6) rfl ?_); refine ev_put (by rfl) rfl rfl (g := g6) rfl (cs := #[.slice as14_0 s0.now.length ds14_0, .slice as14_1 s0.sure.length ds14_1, .slice as14_2 s0.last.length ds14_2, .slice as14_3 s0.slast.length ds14_3, .slice as14_4 s0.floors.length ds14_4]) rfl (Bk.below F30.out HB35.out) (by kernel_rfl) rfl rfl ?_; intro W36 BK37 HB38 HK39; have z0_ := HB3.out.size; have z1_ := HG4.out; have z2_ := BK2.out.lt; have z3_ := HB7.out.size; have z4_ := HG8.out; have z5_ := BK6.out.lt; have z6_ := HB11.out.size; have z7_ := HB17.out.size; have z8_ := HB20.out.size; have z9_ := HG21.out; have z10_ := BK19.out.lt; have z11_ := HB26.out.size; have z12_ := HK27.out.1; have z13_ := HB35.out.size; have HB40 := Ak (below_at (below_step HB26.out HB35.out) HB38.out (by show w.heap.size ≤ g6; omega)); have HK41 := Ak (HK39.out); have F42 := Ak (StC.below HV0.out HB40.out); have F43 := Ak (Bk.kept (Bk.below F29.out HB35.out) HK41.out (fun h_ => (by obtain ⟨h1_, h2_⟩ := h_; omega))); have F44 := Ak (BK37.out); have F45 := Ak (StR.kept (StR.below F31.out HB35.out) HK41.out (fun k_ h_ => (by obtain ⟨h1_, h2_⟩ := h_; omega))); have F46 := Ak (Bk.kept (Bk.below F32.out HB35.out) HK41.out (fun h_ => (by obtain ⟨h1_, h2_⟩ := h_; omega))); clear z0_ z1_ z2_ z3_ z4_ z5_ z6_ z7_ z8_ z9_ z10_ z11_ z12_ z13_))
 try go_wp2
 refine bodyPost_ret (results_ct rfl _ _ g6 26 #[.slice as14_0 s0.now.length ds14_0, .slice as14_1 s0.sure.length ds14_1, .slice as14_2 s0.last.length ds14_2, .slice as14_3 s0.slast.length ds14_3, .slice as14_4 s0.floors.length ds14_4] (0, 0) _ rfl F44.out hu25 rfl (by kernel_rfl)) rfl ?_
 exact ⟨_, rfl, StR.widen F45.out (by have z0_ := HB3.out.size; have z1_ := HG4.out; have z2_ := BK2.out.lt; have z3_ := HB7.out.size; have z4_ := HG8.out; have z5_ := BK6.out.lt; have z6_ := HB11.out.size; have z7_ := HB17.out.size; have z8_ := HB20.out.size; have z9_ := HG21.out; have z10_ := BK19.out.lt; have z11_ := HB26.out.size; have z12_ := HK27.out.1; have z13_ := HB35.out.size; have z14_ := HB40.out.size; have z15_ := HK41.out.1; omega) (by have z0_ := HB3.out.size; have z1_ := HG4.out; have z2_ := BK2.out.lt; have z3_ := HB7.out.size; have z4_ := HG8.out; have z5_ := BK6.out.lt; have z6_ := HB11.out.size; have z7_ := HB17.out.size; have z8_ := HB20.out.size; have z9_ := HG21.out; have z10_ := BK19.out.lt; have z11_ := HB26.out.size; have z12_ := HK27.out.1; have z13_ := HB35.out.size; have z14_ := HB40.out.size; have z15_ := HK41.out.1; omega), HB40.out⟩
set_option maxHeartbeats 8000000 in
set_option maxRecDepth 100000 in
theorem spec_StoreFence_p3 {w : World} {v0 : Value} {s0 : St} (hv0 : StC w v0 s0) (hz0 : Sized s0) (hs0 : Small s0) (a1 a2 : Int) (hk : stOk s0 = true) (hw : whoOk a1 = true) (h0 : ¬ a2 < 0) (h1 : 100 < a2) :
  Calls Try.prog 43 #[v0, .int .i64 a1, .int .i64 a2] w fun e w' => ∃ u, e = .returned (.tuple #[u, .bool false]) ∧ StR w' w.heap.size w'.heap.size u s0 ∧ Below w.heap.size w w' := by
 have HV0 := Ak hv0
 have HZ0 := Ak hz0
 obtain ⟨A0_0, c0_0, A0_1, c0_1, A0_2, c0_2, A0_3, c0_3, A0_4, c0_4, rfl, _⟩ := hv0
 have HS0 := Ak hs0
 clear hz0 hs0
 have HK := Ak hk
 clear hk
 have HW := Ak hw
 clear hw
 have hd0 : decide (a2 < 0) = false := decide_eq_false h0
 clear h0
 have hd1 : decide (100 < a2) = true := decide_eq_true h1
 clear h1
 have hu25 := Try.underlying26
 go_enter Try.func43, Try.ntmps43
 go_wp2_with (first | ((with_reducible refine gate_dst (N := 3) rfl ?_); refine ev_box ?hg (N := 3) ?hd (cs := #[.slice A0_0 s0.now.length c0_0, .slice A0_1 s0.sure.length c0_1, .slice A0_2 s0.last.length c0_2, .slice A0_3 s0.slast.length c0_3, .slice A0_4 s0.floors.length c0_4]) (t := 26) ?hr ?_; (case hd => rfl); (case hg => rfl); (case hr => first | (go_simp; done) | (go_simp; rfl)); intro g3 W1 HG4 BK2 HB3) | ((with_reducible refine gate_dst (N := 6) rfl ?_); refine ev_box ?hg (N := 6) ?hd (cs := #[.slice none 0 0, .slice none 0 0, .slice none 0 0, .slice none 0 0, .slice none 0 0]) (t := 26) ?hr ?_; (case hd => rfl); (case hg => rfl); (case hr => first | (go_simp; done) | (go_simp; rfl)); intro g6 W5 HG8 BK6 HB7) | ((with_reducible refine gate_dst (N := 9) rfl ?_); refine ev_load rfl (N := 9) rfl rfl (g := g3) rfl (cs := #[.slice A0_0 s0.now.length c0_0, .slice A0_1 s0.sure.length c0_1, .slice A0_2 s0.last.length c0_2, .slice A0_3 s0.slast.length c0_3, .slice A0_4 s0.floors.length c0_4]) (Bk.below BK2.out HB7.out) hu25 rfl (by kernel_rfl) ?_))
 refine (spec_StoreOk_q (StC.below HV0.out (below_step HB3.out HB7.out)) HZ0.out HK.out).mono ?_
 rintro e W9 ⟨rfl, hb10⟩
 have HB11 := Ak hb10
 clear hb10
 go_wp2_with (first | ((with_reducible refine gate_dst (N := 13) rfl ?_); refine ev_load rfl (N := 13) rfl rfl (g := g3) rfl (cs := #[.slice A0_0 s0.now.length c0_0, .slice A0_1 s0.sure.length c0_1, .slice A0_2 s0.last.length c0_2, .slice A0_3 s0.slast.length c0_3, .slice A0_4 s0.floors.length c0_4]) (Bk.below BK2.out (below_step HB7.out HB11.out)) hu25 rfl (by kernel_rfl) ?_))
 refine (spec_l5Copy_c (StC.below HV0.out (below_step (below_step HB3.out HB7.out) HB11.out)) HS0.out).mono ?_
 rintro e W15 ⟨u12, rfl, hr13, hb16⟩
 have HB17 := Ak hb16
 clear hb16
 have HRs14 := Ak hr13
 obtain ⟨as14_0, ds14_0, as14_1, ds14_1, as14_2, ds14_2, as14_3, ds14_3, as14_4, ds14_4, rfl, _⟩ := hr13.toC
 clear hr13
 go_wp2_with (first | ((with_reducible refine gate_dst (N := 8) rfl ?_); refine ev_box ?hg (N := 8) ?hd (cs := #[.slice none 0 0, .slice none 0 0, .slice none 0 0, .slice none 0 0, .slice none 0 0]) (t := 26) ?hr ?_; (case hd => rfl); (case hg => rfl); (case hr => first | (go_simp; done) | (go_simp; rfl)); intro g8 W18 HG21 BK19 HB20) | ((with_reducible refine gate_store (t := 26) (p := 8) rfl ?_); refine ev_put (by rfl) rfl rfl (g := g8) rfl (cs := #[.slice as14_0 s0.now.length ds14_0, .slice as14_1 s0.sure.length ds14_1, .slice as14_2 s0.last.length ds14_2, .slice as14_3 s0.slast.length ds14_3, .slice as14_4 s0.floors.length ds14_4]) rfl BK19.out (by kernel_rfl) rfl rfl ?_; intro W22 BK23 HB24 HK25; have z0_ := HB3.out.size; have z1_ := HG4.out; have z2_ := BK2.out.lt; have z3_ := HB7.out.size; have z4_ := HG8.out; have z5_ := BK6.out.lt; have z6_ := HB11.out.size; have z7_ := HB17.out.size; have z8_ := HB20.out.size; have z9_ := HG21.out; have z10_ := BK19.out.lt; have HB26 := Ak (below_at (below_step (below_step (below_step (below_step HB3.out HB7.out) HB11.out) HB17.out) HB20.out) HB24.out (by show w.heap.size ≤ g8; omega)); have HK27 := Ak (HK25.out); have F28 := Ak (StC.below HV0.out HB26.out); have F29 := Ak (Bk.kept (Bk.below BK2.out (below_step (below_step (below_step HB7.out HB11.out) HB17.out) HB20.out)) HK27.out (fun h_ => (by obtain ⟨h1_, h2_⟩ := h_; omega))); have F30 := Ak (Bk.kept (Bk.below BK6.out (below_step (below_step HB11.out HB17.out) HB20.out)) HK27.out (fun h_ => (by obtain ⟨h1_, h2_⟩ := h_; omega))); have F31 := Ak (StR.kept (StR.below HRs14.out HB20.out) HK27.out (fun k_ h_ => (by obtain ⟨h1_, h2_⟩ := h_; omega))); have F32 := Ak (BK23.out); clear z0_ z1_ z2_ z3_ z4_ z5_ z6_ z7_ z8_ z9_ z10_))
 refine (spec_who_c HW.out).mono ?_
 rintro e W33 ⟨rfl, hb34⟩
 have HB35 := Ak hb34
 clear hb34
 go_wp2_with (first | ((with_reducible refine gate_dst (N := 26) rfl ?_); refine ev_load rfl (N := 26) rfl rfl (g := g8) rfl (cs := #[.slice as14_0 s0.now.length ds14_0, .slice as14_1 s0.sure.length ds14_1, .slice as14_2 s0.last.length ds14_2, .slice as14_3 s0.slast.length ds14_3, .slice as14_4 s0.floors.length ds14_4]) (Bk.below F32.out HB35.out) hu25 rfl (by kernel_rfl) ?_) | ((with_reducible refine gate_store (t := 26) (p := 6) rfl ?_); refine ev_put (by rfl) rfl rfl (g := g6) rfl (cs := #[.slice as14_0 s0.now.length ds14_0, .slice as14_1 s0.sure.length ds14_1, .slice as14_2 s0.last.length ds14_2, .slice as14_3 s0.slast.length ds14_3, .slice as14_4 s0.floors.length ds14_4]) rfl (Bk.below F30.out HB35.out) (by kernel_rfl) rfl rfl ?_; intro W36 BK37 HB38 HK39; have z0_ := HB3.out.size; have z1_ := HG4.out; have z2_ := BK2.out.lt; have z3_ := HB7.out.size; have z4_ := HG8.out; have z5_ := BK6.out.lt; have z6_ := HB11.out.size; have z7_ := HB17.out.size; have z8_ := HB20.out.size; have z9_ := HG21.out; have z10_ := BK19.out.lt; have z11_ := HB26.out.size; have z12_ := HK27.out.1; have z13_ := HB35.out.size; have HB40 := Ak (below_at (below_step HB26.out HB35.out) HB38.out (by show w.heap.size ≤ g6; omega)); have HK41 := Ak (HK39.out); have F42 := Ak (StC.below HV0.out HB40.out); have F43 := Ak (Bk.kept (Bk.below F29.out HB35.out) HK41.out (fun h_ => (by obtain ⟨h1_, h2_⟩ := h_; omega))); have F44 := Ak (BK37.out); have F45 := Ak (StR.kept (StR.below F31.out HB35.out) HK41.out (fun k_ h_ => (by obtain ⟨h1_, h2_⟩ := h_; omega))); have F46 := Ak (Bk.kept (Bk.below F32.out HB35.out) HK41.out (fun h_ => (by obtain ⟨h1_, h2_⟩ := h_; omega))); clear z0_ z1_ z2_ z3_ z4_ z5_ z6_ z7_ z8_ z9_ z10_ z11_ z12_ z13_))
 try go_wp2
 refine bodyPost_ret (results_ct rfl _ _ g6 26 #[.slice as14_0 s0.now.length ds14_0, .slice as14_1 s0.sure.length ds14_1, .slice as14_2 s0.last.length ds14_2, .slice as14_3 s0.slast.length ds14_3, .slice as14_4 s0.floors.length ds14_4] (0, 0) _ rfl F44.out hu25 rfl (by kernel_rfl)) rfl ?_
 exact ⟨_, rfl, StR.widen F45.out (by have z0_ := HB3.out.size; have z1_ := HG4.out; have z2_ := BK2.out.lt; have z3_ := HB7.out.size; have z4_ := HG8.out; have z5_ := BK6.out.lt; have z6_ := HB11.out.size; have z7_ := HB17.out.size; have z8_ := HB20.out.size; have z9_ := HG21.out; have z10_ := BK19.out.lt; have z11_ := HB26.out.size; have z12_ := HK27.out.1; have z13_ := HB35.out.size; have z14_ := HB40.out.size; have z15_ := HK41.out.1; omega) (by have z0_ := HB3.out.size; have z1_ := HG4.out; have z2_ := BK2.out.lt; have z3_ := HB7.out.size; have z4_ := HG8.out; have z5_ := BK6.out.lt; have z6_ := HB11.out.size; have z7_ := HB17.out.size; have z8_ := HB20.out.size; have z9_ := HG21.out; have z10_ := BK19.out.lt; have z11_ := HB26.out.size; have z12_ := HK27.out.1; have z13_ := HB35.out.size; have z14_ := HB40.out.size; have z15_ := HK41.out.1; omega), HB40.out⟩
set_option maxHeartbeats 8000000 in
set_option maxRecDepth 100000 in
theorem spec_StoreFence_p4 {w : World} {v0 : Value} {s0 : St} (hv0 : StC w v0 s0) (hz0 : Sized s0) (hs0 : Small s0) (a1 a2 : Int) (hk : stOk s0 = true) (hw : whoOk a1 = true) (h0 : ¬ a2 < 0) (h1 : ¬ 100 < a2) (hi0 : 0 ≤ a1) (hi1 : a1 < s0.floors.length) {m : Int} (hm : (if rd s0.floors a1 < a2 then a2 else rd s0.floors a1) = m) :
  Calls Try.prog 43 #[v0, .int .i64 a1, .int .i64 a2] w fun e w' => ∃ u, e = .returned (.tuple #[u, .bool true]) ∧ StR w' w.heap.size w'.heap.size u { s0 with floors := s0.floors.set a1.toNat m } ∧ Below w.heap.size w w' := by
 have HV0 := Ak hv0
 have HZ0 := Ak hz0
 obtain ⟨A0_0, c0_0, A0_1, c0_1, A0_2, c0_2, A0_3, c0_3, A0_4, c0_4, rfl, _⟩ := hv0
 have HS0 := Ak hs0
 clear hz0 hs0
 have HK := Ak hk
 clear hk
 have HW := Ak hw
 clear hw
 have hd0 : decide (a2 < 0) = false := decide_eq_false h0
 clear h0
 have hd1 : decide (100 < a2) = false := decide_eq_false h1
 clear h1
 have hp0 := eq_true hi0
 have hp1 := eq_true hi1
 have HI0 := Ak hi0
 have HI1 := Ak hi1
 clear hi0 hi1
 have hm_ : (if rd s0.floors a1 < a2 then a2 else rd s0.floors a1) = m := hm
 have HM := Ak hm_
 clear hm hm_
 have hu25 := Try.underlying26
 go_enter Try.func43, Try.ntmps43
 go_wp2_with (first | ((with_reducible refine gate_dst (N := 3) rfl ?_); refine ev_box ?hg (N := 3) ?hd (cs := #[.slice A0_0 s0.now.length c0_0, .slice A0_1 s0.sure.length c0_1, .slice A0_2 s0.last.length c0_2, .slice A0_3 s0.slast.length c0_3, .slice A0_4 s0.floors.length c0_4]) (t := 26) ?hr ?_; (case hd => rfl); (case hg => rfl); (case hr => first | (go_simp; done) | (go_simp; rfl)); intro g3 W1 HG4 BK2 HB3) | ((with_reducible refine gate_dst (N := 6) rfl ?_); refine ev_box ?hg (N := 6) ?hd (cs := #[.slice none 0 0, .slice none 0 0, .slice none 0 0, .slice none 0 0, .slice none 0 0]) (t := 26) ?hr ?_; (case hd => rfl); (case hg => rfl); (case hr => first | (go_simp; done) | (go_simp; rfl)); intro g6 W5 HG8 BK6 HB7) | ((with_reducible refine gate_dst (N := 9) rfl ?_); refine ev_load rfl (N := 9) rfl rfl (g := g3) rfl (cs := #[.slice A0_0 s0.now.length c0_0, .slice A0_1 s0.sure.length c0_1, .slice A0_2 s0.last.length c0_2, .slice A0_3 s0.slast.length c0_3, .slice A0_4 s0.floors.length c0_4]) (Bk.below BK2.out HB7.out) hu25 rfl (by kernel_rfl) ?_))
 refine (spec_StoreOk_q (StC.below HV0.out (below_step HB3.out HB7.out)) HZ0.out HK.out).mono ?_
 rintro e W9 ⟨rfl, hb10⟩
 have HB11 := Ak hb10
 clear hb10
 go_wp2_with (first | ((with_reducible refine gate_dst (N := 13) rfl ?_); refine ev_load rfl (N := 13) rfl rfl (g := g3) rfl (cs := #[.slice A0_0 s0.now.length c0_0, .slice A0_1 s0.sure.length c0_1, .slice A0_2 s0.last.length c0_2, .slice A0_3 s0.slast.length c0_3, .slice A0_4 s0.floors.length c0_4]) (Bk.below BK2.out (below_step HB7.out HB11.out)) hu25 rfl (by kernel_rfl) ?_))
 refine (spec_l5Copy_c (StC.below HV0.out (below_step (below_step HB3.out HB7.out) HB11.out)) HS0.out).mono ?_
 rintro e W15 ⟨u12, rfl, hr13, hb16⟩
 have HB17 := Ak hb16
 clear hb16
 have HRs14 := Ak hr13
 obtain ⟨as14_0, ds14_0, as14_1, ds14_1, as14_2, ds14_2, as14_3, ds14_3, as14_4, ds14_4, rfl, _⟩ := hr13.toC
 clear hr13
 obtain ⟨g18, rfl⟩ := StR.floors_form HRs14.out HI0.out HI1.out
 have GT19 := Ak (StR.floors_lt HRs14.out)
 have GL20 := Ak (StR.floors_cell HRs14.out HI0.out HI1.out).1
 have GH21 := Ak (StR.floors_cell HRs14.out HI0.out HI1.out).2.1
 go_wp2_with (first | ((with_reducible refine gate_dst (N := 8) rfl ?_); refine ev_box ?hg (N := 8) ?hd (cs := #[.slice none 0 0, .slice none 0 0, .slice none 0 0, .slice none 0 0, .slice none 0 0]) (t := 26) ?hr ?_; (case hd => rfl); (case hg => rfl); (case hr => first | (go_simp; done) | (go_simp; rfl)); intro g8 W22 HG25 BK23 HB24) | ((with_reducible refine gate_store (t := 26) (p := 8) rfl ?_); refine ev_put (by rfl) rfl rfl (g := g8) rfl (cs := #[.slice as14_0 s0.now.length ds14_0, .slice as14_1 s0.sure.length ds14_1, .slice as14_2 s0.last.length ds14_2, .slice as14_3 s0.slast.length ds14_3, .slice (some ⟨g18, 0, none⟩) s0.floors.length ds14_4]) rfl BK23.out (by kernel_rfl) rfl rfl ?_; intro W26 BK27 HB28 HK29; have z0_ := HB3.out.size; have z1_ := HG4.out; have z2_ := BK2.out.lt; have z3_ := HB7.out.size; have z4_ := HG8.out; have z5_ := BK6.out.lt; have z6_ := HB11.out.size; have z7_ := HB17.out.size; have z8_ := GT19.out; have z9_ := GL20.out; have z10_ := GH21.out; have z11_ := HB24.out.size; have z12_ := HG25.out; have z13_ := BK23.out.lt; have HB30 := Ak (below_at (below_step (below_step (below_step (below_step HB3.out HB7.out) HB11.out) HB17.out) HB24.out) HB28.out (by show w.heap.size ≤ g8; omega)); have HK31 := Ak (HK29.out); have F32 := Ak (StC.below HV0.out HB30.out); have F33 := Ak (Bk.kept (Bk.below BK2.out (below_step (below_step (below_step HB7.out HB11.out) HB17.out) HB24.out)) HK31.out (fun h_ => (by obtain ⟨h1_, h2_⟩ := h_; omega))); have F34 := Ak (Bk.kept (Bk.below BK6.out (below_step (below_step HB11.out HB17.out) HB24.out)) HK31.out (fun h_ => (by obtain ⟨h1_, h2_⟩ := h_; omega))); have F35 := Ak (StR.kept (StR.below HRs14.out HB24.out) HK31.out (fun k_ h_ => (by obtain ⟨h1_, h2_⟩ := h_; omega))); have F36 := Ak (BK27.out); clear z0_ z1_ z2_ z3_ z4_ z5_ z6_ z7_ z8_ z9_ z10_ z11_ z12_ z13_))
 refine (spec_who_c HW.out).mono ?_
 rintro e W37 ⟨rfl, hb38⟩
 have HB39 := Ak hb38
 clear hb38
 go_wp2_with (fail)
 refine start_ (n := 12) (S := fun w' => Bk w' g8 #[.slice as14_0 s0.now.length ds14_0, .slice as14_1 s0.sure.length ds14_1, .slice as14_2 s0.last.length ds14_2, .slice as14_3 s0.slast.length ds14_3, .slice (some ⟨g18, 0, none⟩) s0.floors.length ds14_4] 26 ∧ w'.cell? ⟨g18, a1.toNat, none⟩ = some (.int .i64 (rd s0.floors a1))) (ds := [11]) #[false, false, false, false, false, false, false, false, false, false, false, false] (by kernel_rfl) rfl rfl ⟨(show Bk W37 g8 #[.slice as14_0 s0.now.length ds14_0, .slice as14_1 s0.sure.length ds14_1, .slice as14_2 s0.last.length ds14_2, .slice as14_3 s0.slast.length ds14_3, .slice (some ⟨g18, 0, none⟩) s0.floors.length ds14_4] 26 from (Bk.below F36.out HB39.out)), (StR.floors_cell (StR.below F35.out HB39.out) HI0.out HI1.out).2.2.1⟩ (fun hHeld => ?_)
 clear hHeld
 refine world_at (w := W37) (below_drew0 _) (fun W40 HB41 => ?_)
 refine pure_ (i := 0) (N := some 27) (v := ?_) (a' := ?_) #[true, false, false, false, false, false, false, false, false, false, false, false] rfl rfl (by kernel_rfl) (fun _ _ _ h => h) (Or.inl ⟨by rfl, ?_⟩) ?_ ?_
 rotate_left
 ·intro w'
  go_simp
  with_reducible rfl
 rotate_left
 ·simp only [Act.put, List.setIfInBounds_toArray, List.set_cons_zero, List.set_cons_succ, i64_w, i32_w]
  rfl
 refine take_ (i := 1) (N := some 28) (v := .slice (some ⟨g18, 0, none⟩) s0.floors.length ds14_4) (a' := ?_) #[true, true, false, false, false, false, false, false, false, false, false, false] rfl rfl (by kernel_rfl) (fun _ _ _ h => h) (Or.inl ⟨by rfl, ?_⟩) ⟨(Bk.below F36.out (below_step HB39.out HB41.out)), (StR.floors_cell (StR.below F35.out (below_step HB39.out HB41.out)) HI0.out HI1.out).2.2.1⟩ ?_ ?_
 ·rintro w' ⟨s0_, s1_⟩
  have hc_ : w'.cell? ⟨g8, 4, none⟩ = some (.slice (some ⟨g18, 0, none⟩) s0.floors.length ds14_4) := (Bk.cell s0_ 4).trans rfl
  first | (go_simp; done) | (go_simp; with_reducible rfl) | (go_simp; rfl)
 rotate_left
 ·simp only [Act.put, List.setIfInBounds_toArray, List.set_cons_zero, List.set_cons_succ, i64_w, i32_w]
  rfl
 refine pure_ (i := 2) (N := some 29) (v := ?_) (a' := ?_) #[true, true, true, false, false, false, false, false, false, false, false, false] rfl rfl (by kernel_rfl) (fun _ _ _ h => h) (Or.inl ⟨by rfl, ?_⟩) ?_ ?_
 rotate_left
 ·intro w'
  go_simp
  with_reducible rfl
 rotate_left
 ·simp only [Act.put, List.setIfInBounds_toArray, List.set_cons_zero, List.set_cons_succ, i64_w, i32_w]
  rfl
 refine pure_ (i := 3) (N := some 30) (v := ?_) (a' := ?_) #[true, true, true, true, false, false, false, false, false, false, false, false] rfl rfl (by kernel_rfl) (fun _ _ _ h => h) (Or.inl ⟨by rfl, ?_⟩) ?_ ?_
 rotate_left
 ·intro w'
  go_simp
  with_reducible rfl
 rotate_left
 ·simp only [Act.put, List.setIfInBounds_toArray, List.set_cons_zero, List.set_cons_succ, i64_w, i32_w]
  rfl
 refine take_ (i := 4) (N := some 31) (v := .slice (some ⟨g18, 0, none⟩) s0.floors.length ds14_4) (a' := ?_) #[true, true, true, true, true, false, false, false, false, false, false, false] rfl rfl (by kernel_rfl) (fun _ _ _ h => h) (Or.inl ⟨by rfl, ?_⟩) ⟨(Bk.below F36.out (below_step HB39.out HB41.out)), (StR.floors_cell (StR.below F35.out (below_step HB39.out HB41.out)) HI0.out HI1.out).2.2.1⟩ ?_ ?_
 ·rintro w' ⟨s0_, s1_⟩
  have hc_ : w'.cell? ⟨g8, 4, none⟩ = some (.slice (some ⟨g18, 0, none⟩) s0.floors.length ds14_4) := (Bk.cell s0_ 4).trans rfl
  first | (go_simp; done) | (go_simp; with_reducible rfl) | (go_simp; rfl)
 rotate_left
 ·simp only [Act.put, List.setIfInBounds_toArray, List.set_cons_zero, List.set_cons_succ, i64_w, i32_w]
  rfl
 refine pure_ (i := 5) (N := some 32) (v := ?_) (a' := ?_) #[true, true, true, true, true, true, false, false, false, false, false, false] rfl rfl (by kernel_rfl) (fun _ _ _ h => h) (Or.inl ⟨by rfl, ?_⟩) ?_ ?_
 rotate_left
 ·intro w'
  go_simp
  with_reducible rfl
 rotate_left
 ·simp only [Act.put, List.setIfInBounds_toArray, List.set_cons_zero, List.set_cons_succ, i64_w, i32_w]
  rfl
 refine pure_ (i := 6) (N := some 33) (v := ?_) (a' := ?_) #[true, true, true, true, true, true, true, false, false, false, false, false] rfl rfl (by kernel_rfl) (fun _ _ _ h => h) (Or.inl ⟨by rfl, ?_⟩) ?_ ?_
 rotate_left
 ·intro w'
  go_simp
  with_reducible rfl
 rotate_left
 ·simp only [Act.put, List.setIfInBounds_toArray, List.set_cons_zero, List.set_cons_succ, i64_w, i32_w]
  rfl
 refine take_ (i := 7) (N := some 34) (v := .int .i64 (rd s0.floors a1)) (a' := ?_) #[true, true, true, true, true, true, true, true, false, false, false, false] rfl rfl (by kernel_rfl) (fun _ _ _ h => h) (Or.inl ⟨by rfl, ?_⟩) ⟨(Bk.below F36.out (below_step HB39.out HB41.out)), (StR.floors_cell (StR.below F35.out (below_step HB39.out HB41.out)) HI0.out HI1.out).2.2.1⟩ ?_ ?_
 ·rintro w' ⟨s0_, s1_⟩
  first | (go_simp; done) | (go_simp; with_reducible rfl) | (go_simp; rfl)
 rotate_left
 ·simp only [Act.put, List.setIfInBounds_toArray, List.set_cons_zero, List.set_cons_succ, i64_w, i32_w]
  rfl
 refine pure_ (i := 8) (N := some 35) (v := ?_) (a' := ?_) #[true, true, true, true, true, true, true, true, true, false, false, false] rfl rfl (by kernel_rfl) (fun _ _ _ h => h) (Or.inl ⟨by rfl, ?_⟩) ?_ ?_
 rotate_left
 ·intro w'
  go_simp
  with_reducible rfl
 rotate_left
 ·simp only [Act.put, List.setIfInBounds_toArray, List.set_cons_zero, List.set_cons_succ, i64_w, i32_w]
  rfl
 refine one_ (i := 9) (N := some 36) #[true, true, true, true, true, true, true, true, true, true, false, false] rfl rfl (by kernel_rfl) (by decide) (fun K hK => ?_)
 refine goes_ Try.func72 (by kernel_rfl) rfl #[.int .i64 (rd s0.floors a1), .int .i64 a2] (by rfl) rfl rfl (by (try simp only [List.map_toArray, List.map_cons, List.map_nil]); first | done | rfl) ?_
 refine (spec_l1Max_c (rd s0.floors a1) a2 HM.out).mono ?_
 rintro e W42 ⟨rfl, hb43⟩
 have HB44 := Ak hb43
 clear hb43
 refine ⟨_, rfl, ?_⟩
 refine hK.out _ _ ⟨(Bk.below F36.out (below_step (below_step HB39.out HB41.out) HB44.out)), (StR.floors_cell (StR.below F35.out (below_step (below_step HB39.out HB41.out) HB44.out)) HI0.out HI1.out).2.2.1⟩ (fun hHeld => ?_)
 clear hHeld hK K
 refine norm_ (a' := ?_) ?_ ?_
 rotate_left
 ·show Act.put _ (some 36) _ = _
  simp only [Act.put, List.setIfInBounds_toArray, List.set_cons_zero, List.set_cons_succ, i64_w, i32_w]
  rfl
 refine pure_ (i := 10) (N := some 37) (v := ?_) (a' := ?_) #[true, true, true, true, true, true, true, true, true, true, true, false] rfl rfl (by kernel_rfl) (fun _ _ _ h => h) (Or.inl ⟨by rfl, ?_⟩) ?_ ?_
 rotate_left
 ·intro w'
  go_simp
  with_reducible rfl
 rotate_left
 ·simp only [Act.put, List.setIfInBounds_toArray, List.set_cons_zero, List.set_cons_succ, i64_w, i32_w]
  rfl
 refine last_ (i := 11) (N := none) #[true, true, true, true, true, true, true, true, true, true, true, true] rfl rfl (by kernel_rfl) (by decide) (fun K hK => ?_)
 refine skip_ (w1 := W42.setCell ⟨g18, a1.toNat, none⟩ (.int .i64 m)) (by rfl) rfl ?_ ?_
 ·have hc_ := (StR.floors_cell (StR.below F35.out (below_step (below_step HB39.out HB41.out) HB44.out)) HI0.out HI1.out).2.2.1
  have hf_ := (StR.floors_cell (StR.below F35.out (below_step (below_step HB39.out HB41.out) HB44.out)) HI0.out HI1.out).2.2.2.1
  first | (go_simp; done) | (go_simp; rfl)
 refine hK.out _ _ ?_
 clear hK K
 refine done_ (by kernel_rfl) ?_
 refine set_event (fun W45 e46 => ?_)
 have z0_ := HB3.out.size; have z1_ := HG4.out; have z2_ := BK2.out.lt; have z3_ := HB7.out.size; have z4_ := HG8.out; have z5_ := BK6.out.lt; have z6_ := HB11.out.size; have z7_ := HB17.out.size; have z8_ := GT19.out; have z9_ := GL20.out; have z10_ := GH21.out; have z11_ := HB24.out.size; have z12_ := HG25.out; have z13_ := BK23.out.lt; have z14_ := HB30.out.size; have z15_ := HK31.out.1; have z16_ := HB39.out.size; have z17_ := HB41.out.size; have z18_ := HB44.out.size; have HB47 := Ak (below_at (below_step HB30.out (below_step (below_step HB39.out HB41.out) HB44.out)) (below_setcell e46) (by show w.heap.size ≤ g18; omega)); have HK48 := Ak (kept_set e46); have F49 := Ak (StC.below HV0.out HB47.out); have F50 := Ak (Bk.kept (Bk.below F33.out (below_step (below_step HB39.out HB41.out) HB44.out)) HK48.out (fun h_ => (by obtain ⟨h1_, h2_⟩ := h_; omega))); have F51 := Ak (Bk.kept (Bk.below F34.out (below_step (below_step HB39.out HB41.out) HB44.out)) HK48.out (fun h_ => (by obtain ⟨h1_, h2_⟩ := h_; omega))); have F52 := Ak ((StR.floors_cell (StR.below F35.out (below_step (below_step HB39.out HB41.out) HB44.out)) HI0.out HI1.out).2.2.2.2 (m) _ e46); have F53 := Ak (Bk.kept (Bk.below F36.out (below_step (below_step HB39.out HB41.out) HB44.out)) HK48.out (fun h_ => (by obtain ⟨h1_, h2_⟩ := h_; omega))); clear z0_ z1_ z2_ z3_ z4_ z5_ z6_ z7_ z8_ z9_ z10_ z11_ z12_ z13_ z14_ z15_ z16_ z17_ z18_ e46
 go_wp2_with (first | ((with_reducible refine gate_dst (N := 38) rfl ?_); refine ev_load rfl (N := 38) rfl rfl (g := g8) rfl (cs := #[.slice as14_0 s0.now.length ds14_0, .slice as14_1 s0.sure.length ds14_1, .slice as14_2 s0.last.length ds14_2, .slice as14_3 s0.slast.length ds14_3, .slice (some ⟨g18, 0, none⟩) s0.floors.length ds14_4]) F53.out hu25 rfl (by kernel_rfl) ?_) | ((with_reducible refine gate_store (t := 26) (p := 6) rfl ?_); refine ev_put (by rfl) rfl rfl (g := g6) rfl (cs := #[.slice as14_0 s0.now.length ds14_0, .slice as14_1 s0.sure.length ds14_1, .slice as14_2 s0.last.length ds14_2, .slice as14_3 s0.slast.length ds14_3, .slice (some ⟨g18, 0, none⟩) s0.floors.length ds14_4]) rfl F51.out (by kernel_rfl) rfl rfl ?_; intro W54 BK55 HB56 HK57; have z0_ := HB3.out.size; have z1_ := HG4.out; have z2_ := BK2.out.lt; have z3_ := HB7.out.size; have z4_ := HG8.out; have z5_ := BK6.out.lt; have z6_ := HB11.out.size; have z7_ := HB17.out.size; have z8_ := GT19.out; have z9_ := GL20.out; have z10_ := GH21.out; have z11_ := HB24.out.size; have z12_ := HG25.out; have z13_ := BK23.out.lt; have z14_ := HB30.out.size; have z15_ := HK31.out.1; have z16_ := HB39.out.size; have z17_ := HB41.out.size; have z18_ := HB44.out.size; have z19_ := HB47.out.size; have z20_ := HK48.out.1; have HB58 := Ak (below_at HB47.out HB56.out (by show w.heap.size ≤ g6; omega)); have HK59 := Ak (HK57.out); have F60 := Ak (StC.below HV0.out HB58.out); have F61 := Ak (Bk.kept F50.out HK59.out (fun h_ => (by obtain ⟨h1_, h2_⟩ := h_; omega))); have F62 := Ak (BK55.out); have F63 := Ak (StR.kept F52.out HK59.out (fun k_ h_ => (by obtain ⟨h1_, h2_⟩ := h_; omega))); have F64 := Ak (Bk.kept F53.out HK59.out (fun h_ => (by obtain ⟨h1_, h2_⟩ := h_; omega))); clear z0_ z1_ z2_ z3_ z4_ z5_ z6_ z7_ z8_ z9_ z10_ z11_ z12_ z13_ z14_ z15_ z16_ z17_ z18_ z19_ z20_))
 try go_wp2
 refine bodyPost_ret (results_ct rfl _ _ g6 26 #[.slice as14_0 s0.now.length ds14_0, .slice as14_1 s0.sure.length ds14_1, .slice as14_2 s0.last.length ds14_2, .slice as14_3 s0.slast.length ds14_3, .slice (some ⟨g18, 0, none⟩) s0.floors.length ds14_4] (0, 0) _ rfl F62.out hu25 rfl (by kernel_rfl)) rfl ?_
 exact ⟨_, rfl, StR.widen F63.out (by have z0_ := HB3.out.size; have z1_ := HG4.out; have z2_ := BK2.out.lt; have z3_ := HB7.out.size; have z4_ := HG8.out; have z5_ := BK6.out.lt; have z6_ := HB11.out.size; have z7_ := HB17.out.size; have z8_ := GT19.out; have z9_ := GL20.out; have z10_ := GH21.out; have z11_ := HB24.out.size; have z12_ := HG25.out; have z13_ := BK23.out.lt; have z14_ := HB30.out.size; have z15_ := HK31.out.1; have z16_ := HB39.out.size; have z17_ := HB41.out.size; have z18_ := HB44.out.size; have z19_ := HB47.out.size; have z20_ := HK48.out.1; have z21_ := HB58.out.size; have z22_ := HK59.out.1; omega) (by have z0_ := HB3.out.size; have z1_ := HG4.out; have z2_ := BK2.out.lt; have z3_ := HB7.out.size; have z4_ := HG8.out; have z5_ := BK6.out.lt; have z6_ := HB11.out.size; have z7_ := HB17.out.size; have z8_ := GT19.out; have z9_ := GL20.out; have z10_ := GH21.out; have z11_ := HB24.out.size; have z12_ := HG25.out; have z13_ := BK23.out.lt; have z14_ := HB30.out.size; have z15_ := HK31.out.1; have z16_ := HB39.out.size; have z17_ := HB41.out.size; have z18_ := HB44.out.size; have z19_ := HB47.out.size; have z20_ := HK48.out.1; have z21_ := HB58.out.size; have z22_ := HK59.out.1; omega), HB58.out⟩
end Go.Proofs.Ytmekkapacbdbeaa.P
namespace Go.Proofs.Ytmekkapacbdbeaa.P
open Go.RowKit Go.Proofs.YtmekkapacbdbeaaW.PrintWords Go.Proofs.YtmekkapacbdbeaaW.PrintLast Go.Proofs.YtmekkapacbdbeaaW.PrintMore
def fenceSt (s : St) (who ep : Int) : St × Bool :=
 if stOk s = true then (if whoOk who = true then (if ep < 0 then (s, false) else if 100 < ep then (s, false) else ({ s with floors := s.floors.set who.toNat (if rd s.floors who < ep then ep else rd s.floors who) }, true)) else (s, false)) else (stNone, false)
theorem fenceSt_small {s t : St} {who ep : Int} {q : Bool} (ht : fenceSt s who ep = (t, q)) (h : Small s) : Small t := by
 have : Small (fenceSt s who ep).1 := by
  unfold fenceSt
  split
  ·split
   ·split
    ·exact h
    ·split
     ·exact h
     ·exact ⟨h.1, h.2.1, h.2.2.1, h.2.2.2.1, by simpa using h.2.2.2.2⟩
   ·exact h
  ·exact stNone_small
 rw [ht] at this
 exact this
theorem whoOk_iff {a : Int} : whoOk a = true ↔ 0 ≤ a ∧ a < 3 := by simp [whoOk]
theorem stOk_lens {s : St} (h : stOk s = true) : s.now.length = 3 ∧ s.sure.length = 3 ∧ s.last.length = 3 ∧ s.slast.length = 3 ∧ s.floors.length = 3 := by
 simp only [stOk, textsOk, lensOk, Bool.and_eq_true, decide_eq_true_eq] at h
 omega
section
variable {w : World} {v : Value} {s t : St} {who ep : Int} {q : Bool}
theorem spec_StoreFence_c (hv : StC w v s) (hz : Sized s) (hs : Small s) (ht : fenceSt s who ep = (t, q)) :
  Calls Try.prog 43 #[v, .int .i64 who, .int .i64 ep] w fun e w' => ∃ u, e = .returned (.tuple #[u, .bool q]) ∧ StR w' w.heap.size w'.heap.size u t ∧ Below w.heap.size w w' := by
 unfold fenceSt at ht
 split at ht
 case isTrue hk =>
  split at ht
  case isTrue hw =>
   obtain ⟨h3, h4⟩ := whoOk_iff.1 hw
   have hl := stOk_lens hk
   split at ht
   ·cases ht
    exact spec_StoreFence_p2 hv hz hs who ep hk hw (by assumption)
   ·split at ht
    ·cases ht
     exact spec_StoreFence_p3 hv hz hs who ep hk hw (by assumption) (by assumption)
    ·cases ht
     exact spec_StoreFence_p4 hv hz hs who ep hk hw (by assumption) (by assumption) h3 (by omega) rfl
  case isFalse hw =>
   cases ht
   exact spec_StoreFence_p1 hv hz hs who ep hk (by simpa using hw)
 case isFalse hk =>
  cases ht
  exact spec_StoreFence_p0 hv hz hs who ep (by simpa using hk)
end
end Go.Proofs.Ytmekkapacbdbeaa.P
namespace Go.Proofs.Ytmekkapacbdbeaa.P
open Go.RowKit Go.Proofs.YtmekkapacbdbeaaW.PrintWords Go.Proofs.YtmekkapacbdbeaaW.PrintLast Go.Proofs.YtmekkapacbdbeaaW.PrintMore
def doSt (s : St) (q : Rq) : St × Int :=
 if reqOk q = true then (if q.epoch < rd s.floors q.who then (s, 2) else if q.num ≤ rd s.last q.who then (s, 3) else if rd s.last q.who + 1 < q.num then (s, 4)
  else ({ s with now := s.now.set q.obj.toNat (writeText (rdOf ByteArray.empty s.now q.obj) q.at_.toNat q.data), last := s.last.set q.who.toNat q.num }, 0)) else (s, 1)
def storeDo (s : St) (q : Rq) : St × Int := if stOk s = true then doSt s q else (stNone, 1)
theorem doSt_small {s t : St} {q : Rq} {c : Int} (ht : doSt s q = (t, c)) (h : Small s) : Small t := by
 have : Small (doSt s q).1 := by
  unfold doSt
  split
  ·split
   ·exact h
   ·split
    ·exact h
    ·split
     ·exact h
     ·exact ⟨by simpa using h.1, h.2.1, by simpa using h.2.2.1, h.2.2.2.1, h.2.2.2.2⟩
  ·exact h
 rw [ht] at this
 exact this
theorem storeDo_small {s t : St} {q : Rq} {c : Int} (ht : storeDo s q = (t, c)) (h : Small s) : Small t := by
 unfold storeDo at ht
 split at ht
 ·exact doSt_small ht h
 ·cases ht
  exact stNone_small
theorem getD_rd {l : List Int} {i : Int} (h0 : 0 ≤ i) (h1 : i < l.length) : rd l i = l.getD i.toNat 0 := by
 obtain ⟨n, rfl⟩ := Int.eq_ofNat_of_zero_le h0
 rw [rd_nat (by omega), Int.toNat_natCast, List.getD_eq_getElem?_getD, List.getElem?_eq_getElem (by omega)]
 rfl
theorem getD_rdOf {l : List ByteArray} {i : Int} (h0 : 0 ≤ i) (h1 : i < l.length) : rdOf ByteArray.empty l i = l.getD i.toNat ByteArray.empty := by
 obtain ⟨n, rfl⟩ := Int.eq_ofNat_of_zero_le h0
 rw [rdOf_nat (by omega), Int.toNat_natCast, List.getD_eq_getElem?_getD, List.getElem?_eq_getElem (by omega)]
 rfl
theorem stOk_num {s : St} (h : stOk s = true) {j : Nat} (hj : j < 3) : 0 ≤ s.slast.getD j 0 ∧ s.slast.getD j 0 ≤ s.last.getD j 0 ∧ s.last.getD j 0 ≤ 1000 ∧ 0 ≤ s.floors.getD j 0 ∧ s.floors.getD j 0 ≤ 100 := by
 simp only [stOk, Bool.and_eq_true] at h
 have := allUp_iff.1 h.2.2.2 j (Nat.zero_le _) (by omega)
 simpa [numOk] using this
theorem stOk_text {s : St} (h : stOk s = true) {j : Nat} (hj : j < 3) : textOk (s.now.getD j ByteArray.empty) = true := by
 have hl := stOk_lens h
 simp only [stOk, textsOk, Bool.and_eq_true, decide_eq_true_eq] at h
 exact allUp_iff.1 h.1.1 j (Nat.zero_le _) (by omega)
section
variable {w0 w : World} {v : Value} {s t : St} {lo hi : Nat} {who ep num obj at_ c : Int} {data : ByteArray}
theorem spec_l5Do_c (hB : Below w0.heap.size w0 w) (hv : StR w lo hi v s) (hlo : w0.heap.size ≤ lo) (hhi : hi ≤ w.heap.size) (hd : data.size ≤ 9223372036854775807) (hk : stOk s = true) (ht : doSt s ⟨who, ep, num, obj, at_, data⟩ = (t, c)) :
  Calls Try.prog 51 #[v, .agg #[.int .i64 who, .int .i64 ep, .int .i64 num, .int .i64 obj, .int .i64 at_, .string data]] w fun e w' => e = .returned (.tuple #[v, .int .i64 c]) ∧ StR w' lo hi v t ∧ Below w0.heap.size w0 w' ∧ Kept w w' (fun k => lo ≤ k ∧ k < hi) := by
 have hl := stOk_lens hk
 unfold doSt at ht
 split at ht
 case isFalse hq =>
  cases ht
  exact spec_l5Do_p1 hB hv hlo hhi who ep num obj at_ data hd (by simpa using hq)
 case isTrue hq =>
  obtain ⟨q0, q1, q2, q3, q4, q5, q6, q7⟩ := reqOk_iff.1 hq
  obtain ⟨h3, h4⟩ := whoOk_iff.1 q0
  have h3 : 0 ≤ who := h3
  have h4 : who < 3 := h4
  have q5 : 0 ≤ obj := q5
  have q6 : obj < 3 := q6
  have b1 : who < s.floors.length := by omega
  have b2 : who < s.last.length := by omega
  have b4 : obj < s.now.length := by omega
  have b5 : textOk (rdOf ByteArray.empty s.now obj) = true := by rw [getD_rdOf q5 b4]; exact stOk_text hk (by omega)
  have hn := stOk_num hk (j := who.toNat) (by omega)
  have hwr : wrap64 (rd s.last who + 1) = rd s.last who + 1 := w64 (by rw [getD_rd h3 b2]; omega) (by rw [getD_rd h3 b2]; omega)
  split at ht
  ·cases ht
   exact spec_l5Do_p2 hB hv hlo hhi who ep num obj at_ data hd h3 b1 b2 q5 b4 b5 hq (by assumption)
  ·split at ht
   ·cases ht
    exact spec_l5Do_p3 hB hv hlo hhi who ep num obj at_ data hd h3 b1 b2 q5 b4 b5 hq (by assumption) (by assumption)
   ·split at ht
    ·cases ht
     exact spec_l5Do_p4 hB hv hlo hhi who ep num obj at_ data hd h3 b1 b2 q5 b4 b5 hq (by assumption) (by assumption) hwr (by assumption)
    ·cases ht
     exact spec_l5Do_p5 hB hv hlo hhi who ep num obj at_ data hd h3 b1 b2 q5 b4 b5 hq (by assumption) (by assumption) hwr (by assumption) rfl
end
end Go.Proofs.Ytmekkapacbdbeaa.P
namespace Go.Proofs.Ytmekkapacbdbeaa.P
open Go.RowKit Go.Proofs.YtmekkapacbdbeaaW.PrintWords Go.Proofs.YtmekkapacbdbeaaW.PrintLast Go.Proofs.YtmekkapacbdbeaaW.PrintMore
attribute [local go_sem] max2_int min2_int max_two min_two
set_option linter.unusedVariables false
set_option linter.unusedSimpArgs false
set_option maxHeartbeats 8000000 in
set_option maxRecDepth 100000 in
theorem spec_StoreDo_p0 {w : World} {v0 : Value} {s0 : St} (hv0 : StC w v0 s0) (hz0 : Sized s0) (hs0 : Small s0) (who ep num obj at_ : Int) (data : ByteArray) (hd : data.size ≤ 9223372036854775807) (hk : stOk s0 = false) :
  Calls Try.prog 39 #[v0, .agg #[.int .i64 who, .int .i64 ep, .int .i64 num, .int .i64 obj, .int .i64 at_, .string data]] w fun e w' => ∃ u, e = .returned (.tuple #[u, .int .i64 1]) ∧ StR w' w.heap.size w'.heap.size u stNone ∧ Below w.heap.size w w' := by
 have HV0 := Ak hv0
 have HZ0 := Ak hz0
 obtain ⟨A0_0, c0_0, A0_1, c0_1, A0_2, c0_2, A0_3, c0_3, A0_4, c0_4, rfl, _⟩ := hv0
 have HS0 := Ak hs0
 clear hz0 hs0
 have HK := Ak hk
 have HD := Ak hd
 clear hk hd
 have hu25 := Try.underlying26
 go_enter Try.func39, Try.ntmps39
 go_wp2_with (first | ((with_reducible refine gate_dst (N := 2) rfl ?_); refine ev_box ?hg (N := 2) ?hd (cs := #[.slice A0_0 s0.now.length c0_0, .slice A0_1 s0.sure.length c0_1, .slice A0_2 s0.last.length c0_2, .slice A0_3 s0.slast.length c0_3, .slice A0_4 s0.floors.length c0_4]) (t := 26) ?hr ?_; (case hd => rfl); (case hg => rfl); (case hr => first | (go_simp; done) | (go_simp; rfl)); intro g2 W1 HG4 BK2 HB3) | ((with_reducible refine gate_dst (N := 3) rfl ?_); refine ev_box ?hg (N := 3) ?hd (cs := #[.int .i64 who, .int .i64 ep, .int .i64 num, .int .i64 obj, .int .i64 at_, .string data]) (t := 52) ?hr ?_; (case hd => rfl); (case hg => rfl); (case hr => first | (go_simp; done) | (go_simp; rfl)); intro g3 W5 HG8 BK6 HB7) | ((with_reducible refine gate_dst (N := 4) rfl ?_); refine ev_box ?hg (N := 4) ?hd (cs := #[.slice none 0 0, .slice none 0 0, .slice none 0 0, .slice none 0 0, .slice none 0 0]) (t := 26) ?hr ?_; (case hd => rfl); (case hg => rfl); (case hr => first | (go_simp; done) | (go_simp; rfl)); intro g4 W9 HG12 BK10 HB11) | ((with_reducible refine gate_dst (N := 6) rfl ?_); refine ev_load rfl (N := 6) rfl rfl (g := g2) rfl (cs := #[.slice A0_0 s0.now.length c0_0, .slice A0_1 s0.sure.length c0_1, .slice A0_2 s0.last.length c0_2, .slice A0_3 s0.slast.length c0_3, .slice A0_4 s0.floors.length c0_4]) (Bk.below BK2.out (below_step HB7.out HB11.out)) hu25 rfl (by kernel_rfl) ?_))
 refine (spec_StoreOk_q (StC.below HV0.out (below_step (below_step HB3.out HB7.out) HB11.out)) HZ0.out HK.out).mono ?_
 rintro e W13 ⟨rfl, hb14⟩
 have HB15 := Ak hb14
 clear hb14
 go_wp2_with (first | ((with_reducible refine gate_store (t := 26) (p := 4) rfl ?_); refine ev_put (by rfl) rfl rfl (g := g4) rfl (cs := #[.slice none 0 0, .slice none 0 0, .slice none 0 0, .slice none 0 0, .slice none 0 0]) rfl (Bk.below BK10.out HB15.out) (by kernel_rfl) rfl rfl ?_; intro W16 BK17 HB18 HK19; have z0_ := HB3.out.size; have z1_ := HG4.out; have z2_ := BK2.out.lt; have z3_ := HB7.out.size; have z4_ := HG8.out; have z5_ := BK6.out.lt; have z6_ := HB11.out.size; have z7_ := HG12.out; have z8_ := BK10.out.lt; have z9_ := HB15.out.size; have HB20 := Ak (below_at (below_step (below_step (below_step HB3.out HB7.out) HB11.out) HB15.out) HB18.out (by show w.heap.size ≤ g4; omega)); have HK21 := Ak (HK19.out); have F22 := Ak (StC.below HV0.out HB20.out); have F23 := Ak (Bk.kept (Bk.below BK2.out (below_step (below_step HB7.out HB11.out) HB15.out)) HK21.out (fun h_ => (by obtain ⟨h1_, h2_⟩ := h_; omega))); have F24 := Ak (Bk.kept (Bk.below BK6.out (below_step HB11.out HB15.out)) HK21.out (fun h_ => (by obtain ⟨h1_, h2_⟩ := h_; omega))); have F25 := Ak (BK17.out); clear z0_ z1_ z2_ z3_ z4_ z5_ z6_ z7_ z8_ z9_))
 try go_wp2
 refine bodyPost_ret (results_ct rfl _ _ g4 26 #[.slice none 0 0, .slice none 0 0, .slice none 0 0, .slice none 0 0, .slice none 0 0] (0, 0) _ rfl F25.out hu25 rfl (by kernel_rfl)) rfl ?_
 exact ⟨_, rfl, StR.zero _ _, HB20.out⟩
set_option maxHeartbeats 8000000 in
set_option maxRecDepth 100000 in
theorem spec_StoreDo_p1 {w : World} {v0 : Value} {s0 : St} (hv0 : StC w v0 s0) (hz0 : Sized s0) (hs0 : Small s0) (who ep num obj at_ : Int) (data : ByteArray) (hd : data.size ≤ 9223372036854775807) {t : St} {c : Int} (hk : stOk s0 = true) (ht : doSt s0 ⟨who, ep, num, obj, at_, data⟩ = (t, c)) :
  Calls Try.prog 39 #[v0, .agg #[.int .i64 who, .int .i64 ep, .int .i64 num, .int .i64 obj, .int .i64 at_, .string data]] w fun e w' => ∃ u, e = .returned (.tuple #[u, .int .i64 c]) ∧ StR w' w.heap.size w'.heap.size u t ∧ Below w.heap.size w w' := by
 have HV0 := Ak hv0
 have HZ0 := Ak hz0
 obtain ⟨A0_0, c0_0, A0_1, c0_1, A0_2, c0_2, A0_3, c0_3, A0_4, c0_4, rfl, _⟩ := hv0
 have HS0 := Ak hs0
 clear hz0 hs0
 have HK := Ak hk
 have HD := Ak hd
 clear hk hd
 have HT := Ak ht
 clear ht
 have hu25 := Try.underlying26
 have hu63 := Try.underlying52
 go_enter Try.func39, Try.ntmps39
 go_wp2_with (first | ((with_reducible refine gate_dst (N := 2) rfl ?_); refine ev_box ?hg (N := 2) ?hd (cs := #[.slice A0_0 s0.now.length c0_0, .slice A0_1 s0.sure.length c0_1, .slice A0_2 s0.last.length c0_2, .slice A0_3 s0.slast.length c0_3, .slice A0_4 s0.floors.length c0_4]) (t := 26) ?hr ?_; (case hd => rfl); (case hg => rfl); (case hr => first | (go_simp; done) | (go_simp; rfl)); intro g2 W1 HG4 BK2 HB3) | ((with_reducible refine gate_dst (N := 3) rfl ?_); refine ev_box ?hg (N := 3) ?hd (cs := #[.int .i64 who, .int .i64 ep, .int .i64 num, .int .i64 obj, .int .i64 at_, .string data]) (t := 52) ?hr ?_; (case hd => rfl); (case hg => rfl); (case hr => first | (go_simp; done) | (go_simp; rfl)); intro g3 W5 HG8 BK6 HB7) | ((with_reducible refine gate_dst (N := 4) rfl ?_); refine ev_box ?hg (N := 4) ?hd (cs := #[.slice none 0 0, .slice none 0 0, .slice none 0 0, .slice none 0 0, .slice none 0 0]) (t := 26) ?hr ?_; (case hd => rfl); (case hg => rfl); (case hr => first | (go_simp; done) | (go_simp; rfl)); intro g4 W9 HG12 BK10 HB11) | ((with_reducible refine gate_dst (N := 6) rfl ?_); refine ev_load rfl (N := 6) rfl rfl (g := g2) rfl (cs := #[.slice A0_0 s0.now.length c0_0, .slice A0_1 s0.sure.length c0_1, .slice A0_2 s0.last.length c0_2, .slice A0_3 s0.slast.length c0_3, .slice A0_4 s0.floors.length c0_4]) (Bk.below BK2.out (below_step HB7.out HB11.out)) hu25 rfl (by kernel_rfl) ?_))
 refine (spec_StoreOk_q (StC.below HV0.out (below_step (below_step HB3.out HB7.out) HB11.out)) HZ0.out HK.out).mono ?_
 rintro e W13 ⟨rfl, hb14⟩
 have HB15 := Ak hb14
 clear hb14
 go_wp2_with (fail)
 refine start_ (n := 8) (S := fun w' => Bk w' g2 #[.slice A0_0 s0.now.length c0_0, .slice A0_1 s0.sure.length c0_1, .slice A0_2 s0.last.length c0_2, .slice A0_3 s0.slast.length c0_3, .slice A0_4 s0.floors.length c0_4] 26 ∧ Bk w' g3 #[.int .i64 who, .int .i64 ep, .int .i64 num, .int .i64 obj, .int .i64 at_, .string data] 52) (ds := []) #[false, false, false, false, false, false, false, false] (by kernel_rfl) rfl rfl ⟨(show Bk W13 g2 #[.slice A0_0 s0.now.length c0_0, .slice A0_1 s0.sure.length c0_1, .slice A0_2 s0.last.length c0_2, .slice A0_3 s0.slast.length c0_3, .slice A0_4 s0.floors.length c0_4] 26 from (Bk.below BK2.out (below_step (below_step HB7.out HB11.out) HB15.out))), (show Bk W13 g3 #[.int .i64 who, .int .i64 ep, .int .i64 num, .int .i64 obj, .int .i64 at_, .string data] 52 from (Bk.below BK6.out (below_step HB11.out HB15.out)))⟩ (fun hHeld => ?_)
 clear hHeld
 refine world_at (w := W13) (below_drew0 _) (fun W16 HB17 => ?_)
 refine take_ (i := 0) (N := some 10) (v := .agg #[.slice A0_0 s0.now.length c0_0, .slice A0_1 s0.sure.length c0_1, .slice A0_2 s0.last.length c0_2, .slice A0_3 s0.slast.length c0_3, .slice A0_4 s0.floors.length c0_4]) (a' := ?_) #[true, false, false, false, false, false, false, false] rfl rfl (by kernel_rfl) (fun _ _ _ h => h) (Or.inl ⟨by rfl, ?_⟩) ⟨(Bk.below BK2.out (below_step (below_step (below_step HB7.out HB11.out) HB15.out) HB17.out)), (Bk.below BK6.out (below_step (below_step HB11.out HB15.out) HB17.out))⟩ ?_ ?_
 ·rintro w' ⟨s0_, s1_⟩
  exact run_load_ev rfl rfl s0_ hu25 rfl (by kernel_rfl)
 rotate_left
 ·simp only [Act.put, List.setIfInBounds_toArray, List.set_cons_zero, List.set_cons_succ, i64_w, i32_w]
  rfl
 refine take_ (i := 2) (N := some 12) (v := .agg #[.int .i64 who, .int .i64 ep, .int .i64 num, .int .i64 obj, .int .i64 at_, .string data]) (a' := ?_) #[true, false, true, false, false, false, false, false] rfl rfl (by kernel_rfl) (fun _ _ _ h => h) (Or.inl ⟨by rfl, ?_⟩) ⟨(Bk.below BK2.out (below_step (below_step (below_step HB7.out HB11.out) HB15.out) HB17.out)), (Bk.below BK6.out (below_step (below_step HB11.out HB15.out) HB17.out))⟩ ?_ ?_
 ·rintro w' ⟨s0_, s1_⟩
  exact run_load_ev rfl rfl s1_ hu63 rfl (by kernel_rfl)
 rotate_left
 ·simp only [Act.put, List.setIfInBounds_toArray, List.set_cons_zero, List.set_cons_succ, i64_w, i32_w]
  rfl
 refine one_ (i := 1) (N := some 11) #[true, true, true, false, false, false, false, false] rfl rfl (by kernel_rfl) (by decide) (fun K hK => ?_)
 refine goes_ Try.func50 (by kernel_rfl) rfl #[.agg #[.slice A0_0 s0.now.length c0_0, .slice A0_1 s0.sure.length c0_1, .slice A0_2 s0.last.length c0_2, .slice A0_3 s0.slast.length c0_3, .slice A0_4 s0.floors.length c0_4]] (by rfl) rfl rfl (by (try simp only [List.map_toArray, List.map_cons, List.map_nil]); first | done | rfl) ?_
 refine (spec_l5Copy_c (StC.below HV0.out (below_step (below_step (below_step (below_step HB3.out HB7.out) HB11.out) HB15.out) HB17.out)) HS0.out).mono ?_
 rintro e W21 ⟨u18, rfl, hr19, hb22⟩
 have HB23 := Ak hb22
 clear hb22
 have HRs20 := Ak hr19
 obtain ⟨as20_0, ds20_0, as20_1, ds20_1, as20_2, ds20_2, as20_3, ds20_3, as20_4, ds20_4, rfl, _⟩ := hr19.toC
 clear hr19
 refine ⟨_, rfl, ?_⟩
 refine hK.out _ _ ⟨(Bk.below BK2.out (below_step (below_step (below_step (below_step HB7.out HB11.out) HB15.out) HB17.out) HB23.out)), (Bk.below BK6.out (below_step (below_step (below_step HB11.out HB15.out) HB17.out) HB23.out))⟩ (fun hHeld => ?_)
 clear hHeld hK K
 refine norm_ (a' := ?_) ?_ ?_
 rotate_left
 ·show Act.put _ (some 11) _ = _
  simp only [Act.put, List.setIfInBounds_toArray, List.set_cons_zero, List.set_cons_succ, i64_w, i32_w]
  rfl
 refine one_ (i := 3) (N := some 13) #[true, true, true, true, false, false, false, false] rfl rfl (by kernel_rfl) (by decide) (fun K hK => ?_)
 refine goes_ Try.func51 (by kernel_rfl) rfl #[.agg #[.slice as20_0 s0.now.length ds20_0, .slice as20_1 s0.sure.length ds20_1, .slice as20_2 s0.last.length ds20_2, .slice as20_3 s0.slast.length ds20_3, .slice as20_4 s0.floors.length ds20_4], .agg #[.int .i64 who, .int .i64 ep, .int .i64 num, .int .i64 obj, .int .i64 at_, .string data]] (by rfl) rfl rfl (by (try simp only [List.map_toArray, List.map_cons, List.map_nil]); first | done | rfl) ?_
 refine (spec_l5Do_c (w0 := w) (below_step (below_step (below_step (below_step (below_step HB3.out HB7.out) HB11.out) HB15.out) HB17.out) HB23.out) HRs20.out (by have z0_ := HB3.out.size; have z1_ := HG4.out; have z2_ := BK2.out.lt; have z3_ := HB7.out.size; have z4_ := HG8.out; have z5_ := BK6.out.lt; have z6_ := HB11.out.size; have z7_ := HG12.out; have z8_ := BK10.out.lt; have z9_ := HB15.out.size; have z10_ := HB17.out.size; have z11_ := HB23.out.size; omega) (by have z0_ := HB3.out.size; have z1_ := HG4.out; have z2_ := BK2.out.lt; have z3_ := HB7.out.size; have z4_ := HG8.out; have z5_ := BK6.out.lt; have z6_ := HB11.out.size; have z7_ := HG12.out; have z8_ := BK10.out.lt; have z9_ := HB15.out.size; have z10_ := HB17.out.size; have z11_ := HB23.out.size; omega) HD.out HK.out HT.out).mono ?_
 rintro e W26 ⟨rfl, hm24, hb27, hk25⟩
 have z0_ := HB3.out.size
 have z1_ := HG4.out
 have z2_ := BK2.out.lt
 have z3_ := HB7.out.size
 have z4_ := HG8.out
 have z5_ := BK6.out.lt
 have z6_ := HB11.out.size
 have z7_ := HG12.out
 have z8_ := BK10.out.lt
 have z9_ := HB15.out.size
 have z10_ := HB17.out.size
 have z11_ := HB23.out.size
 have HB29 := Ak (hb27)
 have HK30 := Ak (hk25)
 have F31 := Ak (StC.below HV0.out HB29.out)
 have F32 := Ak (Bk.kept (Bk.below BK2.out (below_step (below_step (below_step (below_step HB7.out HB11.out) HB15.out) HB17.out) HB23.out)) HK30.out (fun h_ => (by obtain ⟨h1_, h2_⟩ := h_; omega)))
 have F33 := Ak (Bk.kept (Bk.below BK6.out (below_step (below_step (below_step HB11.out HB15.out) HB17.out) HB23.out)) HK30.out (fun h_ => (by obtain ⟨h1_, h2_⟩ := h_; omega)))
 have F34 := Ak (Bk.kept (Bk.below BK10.out (below_step (below_step HB15.out HB17.out) HB23.out)) HK30.out (fun h_ => (by obtain ⟨h1_, h2_⟩ := h_; omega)))
 have F35 := Ak (hm24)
 clear z0_ z1_ z2_ z3_ z4_ z5_ z6_ z7_ z8_ z9_ z10_ z11_ hb27 hk25 hm24
 refine ⟨_, rfl, ?_⟩
 refine hK.out _ _ ⟨F32.out, F33.out⟩ (fun hHeld => ?_)
 clear hHeld hK K
 refine norm_ (a' := ?_) ?_ ?_
 rotate_left
 ·show Act.put _ (some 13) _ = _
  simp only [Act.put, List.setIfInBounds_toArray, List.set_cons_zero, List.set_cons_succ, i64_w, i32_w]
  rfl
 refine pure_ (i := 4) (N := some 14) (v := ?_) (a' := ?_) #[true, true, true, true, true, false, false, false] rfl rfl (by kernel_rfl) (fun _ _ _ h => h) (Or.inl ⟨by rfl, ?_⟩) ?_ ?_
 rotate_left
 ·intro w'
  go_simp
  with_reducible rfl
 rotate_left
 ·simp only [Act.put, List.setIfInBounds_toArray, List.set_cons_zero, List.set_cons_succ, i64_w, i32_w]
  rfl
 refine pure_ (i := 5) (N := some 15) (v := ?_) (a' := ?_) #[true, true, true, true, true, true, false, false] rfl rfl (by kernel_rfl) (fun _ _ _ h => h) (Or.inl ⟨by rfl, ?_⟩) ?_ ?_
 rotate_left
 ·intro w'
  go_simp
  with_reducible rfl
 rotate_left
 ·simp only [Act.put, List.setIfInBounds_toArray, List.set_cons_zero, List.set_cons_succ, i64_w, i32_w]
  rfl
 refine one_ (i := 6) (N := none) #[true, true, true, true, true, true, true, false] rfl rfl (by kernel_rfl) (by decide) (fun K hK => ?_)
 refine wp_storeRow_step (by rfl) rfl rfl (g := g4) (cs := #[.slice as20_0 s0.now.length ds20_0, .slice as20_1 s0.sure.length ds20_1, .slice as20_2 s0.last.length ds20_2, .slice as20_3 s0.slast.length ds20_3, .slice as20_4 s0.floors.length ds20_4]) rfl rfl F34.out (by kernel_rfl) rfl rfl ?_
 intro W36 hbk37 hg38
 have z0_ := HB3.out.size
 have z1_ := HG4.out
 have z2_ := BK2.out.lt
 have z3_ := HB7.out.size
 have z4_ := HG8.out
 have z5_ := BK6.out.lt
 have z6_ := HB11.out.size
 have z7_ := HG12.out
 have z8_ := BK10.out.lt
 have z9_ := HB15.out.size
 have z10_ := HB17.out.size
 have z11_ := HB23.out.size
 have z12_ := HB29.out.size
 have z13_ := HK30.out.1
 have HB39 := Ak (below_at HB29.out hg38.1 (by show w.heap.size ≤ g4; omega))
 have HK40 := Ak (kept_row hg38)
 have F41 := Ak (StC.below HV0.out HB39.out)
 have F42 := Ak (Bk.kept F32.out HK40.out (fun h_ => (by obtain ⟨h1_, h2_⟩ := h_; omega)))
 have F43 := Ak (Bk.kept F33.out HK40.out (fun h_ => (by obtain ⟨h1_, h2_⟩ := h_; omega)))
 have F44 := Ak (hbk37)
 have F45 := Ak (StR.kept F35.out HK40.out (fun k_ h_ => (by obtain ⟨h1_, h2_⟩ := h_; omega)))
 clear z0_ z1_ z2_ z3_ z4_ z5_ z6_ z7_ z8_ z9_ z10_ z11_ z12_ z13_ hbk37 hg38
 refine hK.out _ _ ⟨F42.out, F43.out⟩ (fun hHeld => ?_)
 clear hHeld hK K
 refine norm_ (a' := ?_) ?_ ?_
 rotate_left
 ·show Act.put _ none _ = _
  simp only [Act.put, List.setIfInBounds_toArray, List.set_cons_zero, List.set_cons_succ, i64_w, i32_w]
  rfl
 refine pure_ (i := 7) (N := some 5) (v := ?_) (a' := ?_) #[true, true, true, true, true, true, true, true] rfl rfl (by kernel_rfl) (fun _ _ _ h => h) (Or.inl ⟨by rfl, ?_⟩) ?_ ?_
 rotate_left
 ·intro w'
  go_simp
  with_reducible rfl
 rotate_left
 ·simp only [Act.put, List.setIfInBounds_toArray, List.set_cons_zero, List.set_cons_succ, i64_w, i32_w]
  rfl
 refine done_ (by kernel_rfl) ?_
 go_wp2_with (fail)
 try go_wp2
 refine bodyPost_ret (results_ct rfl _ _ g4 26 #[.slice as20_0 s0.now.length ds20_0, .slice as20_1 s0.sure.length ds20_1, .slice as20_2 s0.last.length ds20_2, .slice as20_3 s0.slast.length ds20_3, .slice as20_4 s0.floors.length ds20_4] (0, 0) _ rfl F44.out hu25 rfl (by kernel_rfl)) rfl ?_
 exact ⟨_, rfl, StR.widen F45.out (by have z0_ := HB3.out.size; have z1_ := HG4.out; have z2_ := BK2.out.lt; have z3_ := HB7.out.size; have z4_ := HG8.out; have z5_ := BK6.out.lt; have z6_ := HB11.out.size; have z7_ := HG12.out; have z8_ := BK10.out.lt; have z9_ := HB15.out.size; have z10_ := HB17.out.size; have z11_ := HB23.out.size; have z12_ := HB29.out.size; have z13_ := HK30.out.1; have z14_ := HB39.out.size; have z15_ := HK40.out.1; omega) (by have z0_ := HB3.out.size; have z1_ := HG4.out; have z2_ := BK2.out.lt; have z3_ := HB7.out.size; have z4_ := HG8.out; have z5_ := BK6.out.lt; have z6_ := HB11.out.size; have z7_ := HG12.out; have z8_ := BK10.out.lt; have z9_ := HB15.out.size; have z10_ := HB17.out.size; have z11_ := HB23.out.size; have z12_ := HB29.out.size; have z13_ := HK30.out.1; have z14_ := HB39.out.size; have z15_ := HK40.out.1; omega), HB39.out⟩
end Go.Proofs.Ytmekkapacbdbeaa.P
namespace Go.Proofs.Ytmekkapacbdbeaa.P
open Go.RowKit Go.Proofs.YtmekkapacbdbeaaW.PrintWords Go.Proofs.YtmekkapacbdbeaaW.PrintLast Go.Proofs.YtmekkapacbdbeaaW.PrintMore
section
variable {w : World} {v : Value} {s t : St} {c : Int}
theorem spec_StoreDo_c {who ep num obj at_ : Int} {data : ByteArray} (hv : StC w v s) (hz : Sized s) (hs : Small s) (hd : data.size ≤ 9223372036854775807) (ht : storeDo s ⟨who, ep, num, obj, at_, data⟩ = (t, c)) :
  Calls Try.prog 39 #[v, .agg #[.int .i64 who, .int .i64 ep, .int .i64 num, .int .i64 obj, .int .i64 at_, .string data]] w fun e w' => ∃ u, e = .returned (.tuple #[u, .int .i64 c]) ∧ StR w' w.heap.size w'.heap.size u t ∧ Below w.heap.size w w' := by
 unfold storeDo at ht
 split at ht
 case isFalse hk =>
  cases ht
  exact spec_StoreDo_p0 hv hz hs who ep num obj at_ data hd (by simpa using hk)
 case isTrue hk => exact spec_StoreDo_p1 hv hz hs who ep num obj at_ data hd hk ht
end
end Go.Proofs.Ytmekkapacbdbeaa.P
namespace Go.Proofs.Ytmekkapacbdbeaa.P
open Go.RowKit Go.Proofs.YtmekkapacbdbeaaW.PrintWords
theorem bt_list {s : ByteArray} {j : Nat} (h : j < s.data.toList.length) : bt s (j : Int) = ((s.data.toList[j]'h).toNat : Int) := by
 have h' : j < s.size := by rw [← ba_size]; exact h
 unfold bt
 rw [dif_pos (by rw [Int.toNat_natCast]; exact h')]
 simp only [Int.toNat_natCast]
 congr 1
theorem bytesOk_iff {s : ByteArray} : bytesOk s = true ↔ ∀ b ∈ s.data.toList, byteOk ((b.toNat : Nat) : Int) = true := by
 unfold bytesOk
 rw [allUp_iff]
 constructor
 ·intro h b hb
  obtain ⟨j, hj, rfl⟩ := List.mem_iff_getElem.1 hb
  have := h j (Nat.zero_le _) (by rw [ba_size] at hj; omega)
  rwa [bt_list hj] at this
 ·intro h j _ hj
  have hj' : j < s.data.toList.length := by rw [ba_size]; omega
  rw [bt_list hj']
  exact h _ (List.getElem_mem _)
theorem textOk_iff {s : ByteArray} : textOk s = true ↔ (∀ b ∈ s.data.toList, byteOk ((b.toNat : Nat) : Int) = true) ∧ s.size ≤ 48 := by
 unfold textOk
 rw [Bool.and_eq_true, bytesOk_iff, decide_eq_true_eq]
theorem writeText_list (t d : ByteArray) (i : Nat) : (writeText t i d).data.toList = ((t.data.toList ++ List.replicate (i - t.size) 46).take i ++ d.data.toList) ++ t.data.toList.drop (i + d.size) := by
 unfold writeText
 rw [ba_app, ba_app, ba_ex, ba_ex, ba_app, ba_dots, List.drop_zero, Nat.sub_zero]
 congr 1
 have hs := ba_size t
 rw [List.take_of_length_le (by rw [List.length_drop]; omega)]
 by_cases h : i + d.size ≤ t.size
 ·rw [Nat.min_eq_left h]
 ·rw [Nat.min_eq_right (by omega), List.drop_eq_nil_of_le (by omega), List.drop_eq_nil_of_le (by omega)]
theorem writeText_size (t d : ByteArray) (i : Nat) : (writeText t i d).size = max t.size (i + d.size) := by
 rw [← ba_size, writeText_list]
 have hs := ba_size t
 have hd := ba_size d
 simp only [List.length_append, List.length_take, List.length_replicate, List.length_drop]
 omega
theorem doSt_fine {s : St} {q : Rq} (h : (doSt s q).2 = 0) : reqOk q = true ∧ rd s.floors q.who ≤ q.epoch ∧ q.num = rd s.last q.who + 1 ∧ (doSt s q).1 = { s with now := s.now.set q.obj.toNat (writeText (rdOf ByteArray.empty s.now q.obj) q.at_.toNat q.data), last := s.last.set q.who.toNat q.num } := by
 unfold doSt at h ⊢
 by_cases h0 : reqOk q = true
 ·rw [if_pos h0] at h ⊢
  by_cases h1 : q.epoch < rd s.floors q.who
  ·rw [if_pos h1] at h
   cases h
  rw [if_neg h1] at h ⊢
  by_cases h2 : q.num ≤ rd s.last q.who
  ·rw [if_pos h2] at h
   cases h
  rw [if_neg h2] at h ⊢
  by_cases h3 : rd s.last q.who + 1 < q.num
  ·rw [if_pos h3] at h
   cases h
  rw [if_neg h3]
  exact ⟨h0, by omega, by omega, rfl⟩
 ·rw [if_neg h0] at h
  cases h
theorem doSt_other {s : St} {q : Rq} (h : (doSt s q).2 ≠ 0) : (doSt s q).1 = s := by
 unfold doSt at h ⊢
 split
 ·split
  ·rfl
  ·split
   ·rfl
   ·split
    ·rfl
    ·rename_i a b c d
     rw [if_pos a, if_neg b, if_neg c, if_neg d] at h
     exact absurd rfl h
 ·rfl
theorem reqOk_bounds {q : Rq} (h : reqOk q = true) : 0 ≤ q.who ∧ q.who < 3 ∧ 0 ≤ q.obj ∧ q.obj < 3 ∧ 1 ≤ q.num ∧ q.num ≤ 1000 ∧ 0 ≤ q.epoch ∧ q.epoch ≤ 100 ∧ 0 ≤ q.at_ ∧ q.at_ + q.data.size ≤ 48 ∧ textOk q.data = true ∧ q.data.size ≠ 0 := by
 obtain ⟨q0, q1, q2, q3, q4, q5, q6, q7⟩ := reqOk_iff.1 h
 obtain ⟨a, b⟩ := whoOk_iff.1 q0
 obtain ⟨c, d, e, f, g⟩ := writeOk_iff.1 q7
 exact ⟨a, b, q5, q6, q3, q4, q1, q2, c, g, f, e⟩
end Go.Proofs.Ytmekkapacbdbeaa.P
namespace Go.Proofs.Ytmekkapacbdbeaa.P
open Go.RowKit Go.Proofs.YtmekkapacbdbeaaW.PrintWords
theorem sized_new : Sized stNew := by
 unfold Sized stNew
 constructor <;> · intro x hx; have := List.eq_of_mem_replicate hx; subst this; decide
theorem sized_none : Sized stNone := by
 unfold Sized stNone
 simp
theorem sized_sync {s : St} (h : Sized s) : Sized (syncSt s) := by
 unfold syncSt
 split
 ·exact ⟨h.1, h.1⟩
 ·exact sized_none
theorem sized_fall {s : St} (h : Sized s) : Sized (fallSt s) := by
 unfold fallSt
 split
 ·exact ⟨h.2, h.2⟩
 ·exact sized_none
theorem sized_fence {s : St} {a b : Int} (h : Sized s) : Sized (fenceSt s a b).1 := by
 unfold fenceSt
 split
 ·split
  ·split
   ·exact h
   ·split
    ·exact h
    ·exact h
  ·exact h
 ·exact sized_none
theorem sized_doSt {s : St} {q : Rq} (h : Sized s) : Sized (doSt s q).1 := by
 by_cases hc : (doSt s q).2 = 0
 case neg => rw [doSt_other hc]; exact h
 obtain ⟨hq, _, _, h3⟩ := doSt_fine hc
 have hb := reqOk_bounds hq
 rw [h3]
 refine ⟨fun x hx => ?_, h.2⟩
 rcases List.mem_or_eq_of_mem_set hx with hx | hx
 ·exact h.1 x hx
 ·subst hx
  rw [writeText_size]
  have : (rdOf ByteArray.empty s.now q.obj).size ≤ 9223372036854775807 := by
   unfold rdOf
   by_cases hi : q.obj.toNat < s.now.length
   ·rw [List.getD_eq_getElem?_getD, List.getElem?_eq_getElem hi]
    exact h.1 _ (List.getElem_mem hi)
   ·rw [List.getD_eq_getElem?_getD, List.getElem?_eq_none (by omega)]
    decide
  omega
theorem sized_do {s : St} {q : Rq} (h : Sized s) : Sized (storeDo s q).1 := by
 unfold storeDo
 split
 ·exact sized_doSt h
 ·exact sized_none
theorem sized_new_e {t : St} (h : stNew = t) : Sized t := h ▸ sized_new
theorem sized_sync_e {s t : St} (h : syncSt s = t) (hs : Sized s) : Sized t := h ▸ sized_sync hs
theorem sized_fall_e {s t : St} (h : fallSt s = t) (hs : Sized s) : Sized t := h ▸ sized_fall hs
theorem sized_fence_e {s t : St} {a b : Int} {q : Bool} (h : fenceSt s a b = (t, q)) (hs : Sized s) : Sized t := by
 have := sized_fence (a := a) (b := b) hs
 rwa [h] at this
theorem sized_do_e {s t : St} {q : Rq} {c : Int} (h : storeDo s q = (t, c)) (hs : Sized s) : Sized t := by
 have := sized_do (q := q) hs
 rwa [h] at this
end Go.Proofs.Ytmekkapacbdbeaa.P
namespace Go.Proofs.Ytmekkapacbdbeaa.P
open Go.RowKit Go.Proofs.YtmekkapacbdbeaaW.PrintWords Go.Proofs.YtmekkapacbdbeaaW.PrintLast Go.Proofs.YtmekkapacbdbeaaW.PrintMore
set_option linter.unusedVariables false
set_option linter.unusedSimpArgs false
set_option maxHeartbeats 8000000 in
set_option maxRecDepth 100000 in
theorem l5Some_c {w0 w : World} {g m : Nat} (hB : Below w0.heap.size w0 w) (hR : Rd w0 w g (m + 352)) :
  Calls Try.prog 47 #[.pointer (some ⟨g, 0, none⟩)] w fun e w' => ∃ u t, e = .returned u ∧ StI w' w.heap.size w'.heap.size u t ∧ Small t ∧ Sized t ∧ Rd w0 w' g m ∧ Below w0.heap.size w0 w' ∧ Kept w w' (fun k => g ≤ k ∧ k < g + 1) := by
 have HB0 := Ak hB
 have HG := Ak hR.lt
 have HG0 := Ak hR.ge
 have HRD := Ak hR
 have KP0 := Ak (Kept.refl w (fun k => g ≤ k ∧ k < g + 1))
 have HT0 := Ak (Nat.le_refl w.heap.size)
 clear hB hR
 have hu26 := Try.underlying26
 go_enter Try.func47, Try.ntmps47
 go_wp2_with (first | ((with_reducible refine gate_dst (N := 2) rfl ?_); refine ev_box ?hg (N := 2) ?hd (cs := #[.slice none 0 0, .slice none 0 0, .slice none 0 0, .slice none 0 0, .slice none 0 0]) (t := 26) ?hr ?_; (case hd => rfl); (case hg => rfl); (case hr => first | (go_simp; done) | (go_simp; rfl)); intro g2 W1 HG4 BK2 HB3))
 obtain ⟨t7, ht_⟩ : ∃ x_, stNew = x_ := ⟨_, rfl⟩
 have HT8 := Ak ht_
 clear ht_
 refine (spec_StoreNew_c HT8.out).mono ?_
 rintro e W10 ⟨u5, rfl, hr6, hb11⟩
 have HB12 := Ak hb11
 clear hb11
 have HRs9 := Ak hr6
 obtain ⟨as9_0, ds9_0, as9_1, ds9_1, as9_2, ds9_2, as9_3, ds9_3, as9_4, ds9_4, rfl, _⟩ := hr6.toC
 clear hr6
 go_wp2_with (first | ((with_reducible refine gate_dst (N := 3) rfl ?_); refine ev_box ?hg (N := 3) ?hd (cs := #[.slice none 0 0, .slice none 0 0, .slice none 0 0, .slice none 0 0, .slice none 0 0]) (t := 26) ?hr ?_; (case hd => rfl); (case hg => rfl); (case hr => first | (go_simp; done) | (go_simp; rfl)); intro g3 W13 HG16 BK14 HB15) | ((with_reducible refine gate_store (t := 26) (p := 3) rfl ?_); refine ev_put (by rfl) rfl rfl (g := g3) rfl (cs := #[.slice as9_0 t7.now.length ds9_0, .slice as9_1 t7.sure.length ds9_1, .slice as9_2 t7.last.length ds9_2, .slice as9_3 t7.slast.length ds9_3, .slice as9_4 t7.floors.length ds9_4]) rfl BK14.out (by kernel_rfl) rfl rfl ?_; intro W17 BK18 HB19 HK20; have z0_ := HB0.out.size; have z1_ := HG.out; have z2_ := HG0.out; have z3_ := HT0.out; have z4_ := HB3.out.size; have z5_ := HG4.out; have z6_ := BK2.out.lt; have z7_ := HB12.out.size; have z8_ := HB15.out.size; have z9_ := HG16.out; have z10_ := BK14.out.lt; have C21 := Ak (show w.heap.size ≤ g2 ∧ g2 ≤ g2 + 1 from (by omega)); have C22 := Ak (show g2 + 1 ≤ W1.heap.size ∧ W1.heap.size ≤ W10.heap.size from (by omega)); have C23 := Ak (show W10.heap.size ≤ g3 ∧ g3 ≤ g3 + 1 from (by omega)); have T24 := Ak (show g3 + 1 ≤ W13.heap.size from (by omega)); have HB25 := Ak (below_at (below_step HB0.out (below_step (below_step HB3.out HB12.out) HB15.out)) HB19.out (by show w0.heap.size ≤ g3; omega)); have HK26 := Ak (HK20.out); have KP28 := Ak (kept_new (Kept.below KP0.out (below_step (below_step HB3.out HB12.out) HB15.out)) HK26.out (by show w.heap.size ≤ g3; omega)); have T27 := Ak (Nat.le_trans T24.out HK26.out.1); have F29 := Ak (Bk.kept (Bk.below BK2.out (below_step HB12.out HB15.out)) HK26.out (fun h_ => (by obtain ⟨h1_, h2_⟩ := h_; omega))); have F30 := Ak (StR.kept (StR.below HRs9.out HB15.out) HK26.out (fun k_ h_ => (by obtain ⟨h1_, h2_⟩ := h_; omega))); have F31 := Ak (BK18.out); have F32 := Ak (Rd.kept (Rd.below HRD.out (below_step (below_step HB3.out HB12.out) HB15.out)) HK26.out (fun h_ => (by obtain ⟨h1_, h2_⟩ := h_; omega))); clear z0_ z1_ z2_ z3_ z4_ z5_ z6_ z7_ z8_ z9_ z10_) | ((with_reducible refine gate_dst (N := 7) rfl ?_); refine ev_lit (Kd.int .i64) 3 ?hg (N := 7) ?hd (xs := ([5, 9, 3, 0, 14] : List Int)) (inner := [.int .i64 5, .int .i64 9, .int .i64 3, .int .i64 0, .int .i64 14]) ?hr (reps_int ([5, 9, 3, 0, 14] : List Int)) (by simp) ?_; (case hd => rfl); (case hg => rfl); (case hr => first | (go_simp; done) | (go_simp; rfl)); intro A33 c34 W36 HL35 HB37))
 refine (num_c (m := m + 351) (Rd.below F32.out HB37.out) (below_step HB25.out HB37.out) HL35.out.1 HL35.out.2.1 (fun ad_ e_ h_ => (by have q_ := HL35.out.2.2 ad_ e_ h_; show ad_.block ≠ g; have z0_ := HB0.out.size; have z1_ := HG.out; have z2_ := HG0.out; have z3_ := C21.out; have z4_ := C22.out; have z5_ := C23.out; have z6_ := T27.out; have z7_ := HB37.out.size; omega)) (by decide)).mono ?_
 rintro e W43 ⟨r38, rfl, hm39, hR40, hb44, hk41⟩
 have z0_ := HB0.out.size
 have z1_ := HG.out
 have z2_ := HG0.out
 have z3_ := C21.out
 have z4_ := C22.out
 have z5_ := C23.out
 have z6_ := T27.out
 have z7_ := HB37.out.size
 have T46 := Ak (show g3 + 1 ≤ W36.heap.size from (by omega))
 have N47 := Ak (show ¬ (g ≤ g2 ∧ g2 < g + 1) from (by omega))
 have N48 := Ak (show ∀ k_, (g ≤ k_ ∧ k_ < g + 1) → k_ < W1.heap.size ∨ W10.heap.size ≤ k_ from (by intro k_ h_; omega))
 have N49 := Ak (show ¬ (g ≤ g3 ∧ g3 < g + 1) from (by omega))
 have HB50 := Ak (hb44)
 have HK51 := Ak (hk41)
 have KP53 := Ak (Kept.then_ (Kept.below KP28.out HB37.out) HK51.out (fun _ h_ => Or.inl h_))
 have T52 := Ak (Nat.le_trans T46.out HK51.out.1)
 have F54 := Ak (Bk.kept (Bk.below F29.out HB37.out) HK51.out N47.out)
 have F55 := Ak (StR.kept (StR.below F30.out HB37.out) HK51.out N48.out)
 have F56 := Ak (Bk.kept (Bk.below F31.out HB37.out) HK51.out N49.out)
 have F57 := Ak (hR40)
 clear z0_ z1_ z2_ z3_ z4_ z5_ z6_ z7_ hb44 hk41 hR40
 have HM42 := Ak hm39
 clear hm39
 try go_wp2
 have HI0 := Ak (show 0 ≤ (r38 : Int) ∧ r38 ≤ 14 from (by have h_ := HM42.out; simp only [List.mem_cons, List.not_mem_nil, or_false] at h_; omega))
 go_loopg [4] ((r38).toNat) (fun k_ v4_ W58 => ∃ (b0_ : Option Addr) (n0_ : Nat) (e0_ : Nat) (b1_ : Option Addr) (n1_ : Nat) (e1_ : Nat) (b2_ : Option Addr) (n2_ : Nat) (e2_ : Nat) (b3_ : Option Addr) (n3_ : Nat) (e3_ : Nat) (b4_ : Option Addr) (n4_ : Nat) (e4_ : Nat) (t_ : St) (lo_ : Nat) (hi_ : Nat) (i_ : Int), v4_ = .int .i64 i_ ∧ Aside0 (Bk W58 g2 #[.slice none 0 0, .slice none 0 0, .slice none 0 0, .slice none 0 0, .slice none 0 0] 26) ∧ Aside0 (Bk W58 g3 #[.slice b0_ n0_ e0_, .slice b1_ n1_ e1_, .slice b2_ n2_ e2_, .slice b3_ n3_ e3_, .slice b4_ n4_ e4_] 26) ∧ Aside0 (StI W58 lo_ hi_ (.agg #[.slice b0_ n0_ e0_, .slice b1_ n1_ e1_, .slice b2_ n2_ e2_, .slice b3_ n3_ e3_, .slice b4_ n4_ e4_]) (t_)) ∧ Aside0 (Rd w0 W58 g (m + 25 * i_.toNat)) ∧ Aside0 (Below w0.heap.size w0 W58) ∧ Aside0 (Kept w W58 (fun k => g ≤ k ∧ k < g + 1)) ∧ Aside0 (g3 + 1 ≤ W58.heap.size) ∧ Aside0 (0 ≤ i_ ∧ i_ ≤ 14 ∧ i_.toNat ≤ k_) ∧ Aside0 (w.heap.size ≤ lo_ ∧ lo_ ≤ hi_ ∧ hi_ ≤ W58.heap.size ∧ (g3 < lo_ ∨ hi_ ≤ g3) ∧ (g2 < lo_ ∨ hi_ ≤ g2)) ∧ Aside0 (Small t_) ∧ Aside0 (Sized t_))
 case atStart => exact ⟨_, _, _, _, _, _, _, _, _, _, _, _, _, _, _, t7, W1.heap.size, W10.heap.size, r38, rfl, ⟨F54.out⟩, ⟨F56.out⟩, ⟨StR.toI F55.out⟩, ⟨Rd.less F57.out (by have h0_ := HI0.out; omega)⟩, ⟨HB50.out⟩, ⟨KP53.out⟩, ⟨(by show g3 + 1 ≤ W43.heap.size; have z0_ := HB0.out.size; have z1_ := HG.out; have z2_ := HG0.out; have z3_ := C21.out; have z4_ := C22.out; have z5_ := C23.out; have z6_ := T52.out; omega)⟩, ⟨⟨HI0.out.1, HI0.out.2, Nat.le_refl _⟩⟩, ⟨(by show w.heap.size ≤ W1.heap.size ∧ W1.heap.size ≤ W10.heap.size ∧ W10.heap.size ≤ W43.heap.size ∧ (g3 < W1.heap.size ∨ W10.heap.size ≤ g3) ∧ (g2 < W1.heap.size ∨ W10.heap.size ≤ g2); have z0_ := HB0.out.size; have z1_ := HG.out; have z2_ := HG0.out; have z3_ := C21.out; have z4_ := C22.out; have z5_ := C23.out; have z6_ := T52.out; omega)⟩, ⟨(small_new HT8.out)⟩, ⟨(sized_new_e HT8.out)⟩⟩
 case round =>
  obtain ⟨W58, hW_⟩ : ∃ x_, x_ = wr := ⟨_, rfl⟩
  subst hW_
  obtain ⟨b0_, n0_, e0_, b1_, n1_, e1_, b2_, n2_, e2_, b3_, n3_, e3_, b4_, n4_, e4_, t_, lo_, hi_, i_, rfl, BK59, BK60, HR61, RD62, HB63, KP64, HZ65, HX66, HX67, HX68, HX69⟩ := hrel
  have TW := Ak (Nat.le_refl W58.heap.size)
  have HSt := HX68
  have HZt := HX69
  have HIk := HX66
  obtain ⟨mq, hmq⟩ : ∃ mq_, mq_ = m + 25 * (i_ - 1).toNat := ⟨_, rfl⟩
  have HQ := Ak hmq
  clear hmq
  go_upto_if 10 with (fail)
  by_cases c70 : i_ > 0
  ·have d71 : decide (i_ > 0) = true := decide_eq_true c70
   (first | rw [d71] | (simp only [i64_w, i32_w]; rw [d71]) | skip)
   have K72 := Ak c70
   clear c70
   have HPOS := K72
   have RDq := Ak (Rd.less RD62.out (show mq + 25 ≤ m + 25 * i_.toNat from (by have h_ := HQ.out; have h1_ := HPOS.out; omega)))
   go_wp2_with (fail)
   refine (pick_c (m := mq + 24) RDq.out HB63.out (by omega)).mono ?_
   rintro e W79 ⟨r73, rfl, h74, h75, hR76, hb80, hk77⟩
   have z0_ := HB0.out.size
   have z1_ := HG.out
   have z2_ := HG0.out
   have z3_ := C21.out
   have z4_ := C22.out
   have z5_ := C23.out
   have z6_ := HX67.out
   have z7_ := HZ65.out
   have z8_ := TW.out
   have T82 := Ak (show W58.heap.size ≤ W58.heap.size from (by omega))
   have N83 := Ak (show ∀ k_, (g ≤ k_ ∧ k_ < g + 1) → k_ < lo_ ∨ hi_ ≤ k_ from (by intro k_ h_; omega))
   have HB84 := Ak (hb80)
   have HK85 := Ak (hk77)
   have KP87 := Ak (Kept.then_ KP64.out HK85.out (fun _ h_ => Or.inl h_))
   have T86 := Ak (Nat.le_trans T82.out HK85.out.1)
   have F88 := Ak (Bk.kept BK59.out HK85.out N47.out)
   have F89 := Ak (Bk.kept BK60.out HK85.out N49.out)
   have F90 := Ak (StI.kept HR61.out HK85.out N83.out)
   have F91 := Ak (hR76)
   clear z0_ z1_ z2_ z3_ z4_ z5_ z6_ z7_ z8_ hb80 hk77 hR76
   have HP78 := Ak (And.intro h74 h75)
   clear h74 h75
   go_upto_if 23 with (fail)
   by_cases c92 : r73 = 0
   ·have d93 : (r73 == 0) = true := beq_iff_eq.mpr c92
    (first | rw [d93] | (simp only [i64_w, i32_w]; rw [d93]) | skip)
    have K94 := Ak c92
    clear c92
    go_wp2_with (first | ((with_reducible refine gate_dst (N := 25) rfl ?_); refine ev_load rfl (N := 25) rfl rfl (g := g3) rfl (cs := #[.slice b0_ n0_ e0_, .slice b1_ n1_ e1_, .slice b2_ n2_ e2_, .slice b3_ n3_ e3_, .slice b4_ n4_ e4_]) F89.out hu26 rfl (by kernel_rfl) ?_))
    obtain ⟨t97, ht_⟩ : ∃ x_, syncSt t_ = x_ := ⟨_, rfl⟩
    have HT98 := Ak ht_
    clear ht_
    refine (spec_StoreSync_c (StI.toC F90.out) HZt.out HSt.out HT98.out).mono ?_
    rintro e W100 ⟨u95, rfl, hr96, hb101⟩
    have HB102 := Ak hb101
    clear hb101
    have HRs99 := Ak hr96
    obtain ⟨as99_0, ds99_0, as99_1, ds99_1, as99_2, ds99_2, as99_3, ds99_3, as99_4, ds99_4, rfl, _⟩ := hr96.toC
    clear hr96
    try go_wp2_with (first | ((with_reducible refine gate_store (t := 26) (p := 3) rfl ?_); refine ev_put (by rfl) rfl rfl (g := g3) rfl (cs := #[.slice as99_0 t97.now.length ds99_0, .slice as99_1 t97.sure.length ds99_1, .slice as99_2 t97.last.length ds99_2, .slice as99_3 t97.slast.length ds99_3, .slice as99_4 t97.floors.length ds99_4]) rfl (Bk.below F89.out HB102.out) (by kernel_rfl) rfl rfl ?_; intro W103 BK104 HB105 HK106; have z0_ := HB0.out.size; have z1_ := HG.out; have z2_ := HG0.out; have z3_ := C21.out; have z4_ := C22.out; have z5_ := C23.out; have z6_ := HX67.out; have z7_ := HZ65.out; have z8_ := T86.out; have z9_ := HB102.out.size; have C107 := Ak (show W58.heap.size ≤ W79.heap.size ∧ W79.heap.size ≤ W100.heap.size from (by omega)); have T108 := Ak (show W100.heap.size ≤ W100.heap.size from (by omega)); have HB109 := Ak (below_at (below_step HB84.out HB102.out) HB105.out (by show w0.heap.size ≤ g3; omega)); have HK110 := Ak (HK106.out); have KP112 := Ak (kept_new (Kept.below KP87.out HB102.out) HK110.out (by show w.heap.size ≤ g3; omega)); have T111 := Ak (Nat.le_trans T108.out HK110.out.1); have F113 := Ak (Bk.kept (Bk.below F88.out HB102.out) HK110.out (fun h_ => (by obtain ⟨h1_, h2_⟩ := h_; omega))); have F114 := Ak (BK104.out); have F115 := Ak (StI.kept (StI.below F90.out HB102.out) HK110.out (fun k_ h_ => (by obtain ⟨h1_, h2_⟩ := h_; omega))); have F116 := Ak (StR.kept HRs99.out HK110.out (fun k_ h_ => (by obtain ⟨h1_, h2_⟩ := h_; omega))); have F117 := Ak (Rd.kept (Rd.below F91.out HB102.out) HK110.out (fun h_ => (by obtain ⟨h1_, h2_⟩ := h_; omega))); clear z0_ z1_ z2_ z3_ z4_ z5_ z6_ z7_ z8_ z9_))
    go_roundg ((i_ - 1).toNat)
    case measure => have h_ := HIk.out; have h1_ := K72.out; omega
    case rel => exact ⟨_, _, _, _, _, _, _, _, _, _, _, _, _, _, _, t97, W79.heap.size, W100.heap.size, i_ - 1, (by rw [w64 (by have h_ := HIk.out; have h1_ := HPOS.out; omega) (by have h_ := HIk.out; have h1_ := HPOS.out; omega)]), ⟨F113.out⟩, ⟨F114.out⟩, ⟨StR.toI F116.out⟩, ⟨Rd.less F117.out (by have h_ := HQ.out; omega)⟩, ⟨HB109.out⟩, ⟨KP112.out⟩, ⟨(by show g3 + 1 ≤ W103.heap.size; have z0_ := HB0.out.size; have z1_ := HG.out; have z2_ := HG0.out; have z3_ := C21.out; have z4_ := C22.out; have z5_ := C23.out; have z6_ := HX67.out; have z7_ := HZ65.out; have z8_ := C107.out; have z9_ := T111.out; omega)⟩, ⟨(by have h_ := HIk.out; have h1_ := K72.out; exact ⟨by omega, by omega, by omega⟩)⟩, ⟨(by show w.heap.size ≤ W79.heap.size ∧ W79.heap.size ≤ W100.heap.size ∧ W100.heap.size ≤ W103.heap.size ∧ (g3 < W79.heap.size ∨ W100.heap.size ≤ g3) ∧ (g2 < W79.heap.size ∨ W100.heap.size ≤ g2); have z0_ := HB0.out.size; have z1_ := HG.out; have z2_ := HG0.out; have z3_ := C21.out; have z4_ := C22.out; have z5_ := C23.out; have z6_ := HX67.out; have z7_ := HZ65.out; have z8_ := C107.out; have z9_ := T111.out; omega)⟩, ⟨(syncSt_small HT98.out HSt.out)⟩, ⟨(sized_sync_e HT98.out HZt.out)⟩⟩
   ·have d93 : (r73 == 0) = false := beq_eq_false_iff_ne.mpr c92
    (first | rw [d93] | (simp only [i64_w, i32_w]; rw [d93]) | skip)
    have K94 := Ak c92
    clear c92
    go_upto_if 27 with (fail)
    by_cases c118 : r73 = 1
    ·have d119 : (r73 == 1) = true := beq_iff_eq.mpr c118
     (first | rw [d119] | (simp only [i64_w, i32_w]; rw [d119]) | skip)
     have K120 := Ak c118
     clear c118
     go_wp2_with (first | ((with_reducible refine gate_dst (N := 29) rfl ?_); refine ev_load rfl (N := 29) rfl rfl (g := g3) rfl (cs := #[.slice b0_ n0_ e0_, .slice b1_ n1_ e1_, .slice b2_ n2_ e2_, .slice b3_ n3_ e3_, .slice b4_ n4_ e4_]) F89.out hu26 rfl (by kernel_rfl) ?_))
     obtain ⟨t123, ht_⟩ : ∃ x_, fallSt t_ = x_ := ⟨_, rfl⟩
     have HT124 := Ak ht_
     clear ht_
     refine (spec_StoreFall_c (StI.toC F90.out) HZt.out HSt.out HT124.out).mono ?_
     rintro e W126 ⟨u121, rfl, hr122, hb127⟩
     have HB128 := Ak hb127
     clear hb127
     have HRs125 := Ak hr122
     obtain ⟨as125_0, ds125_0, as125_1, ds125_1, as125_2, ds125_2, as125_3, ds125_3, as125_4, ds125_4, rfl, _⟩ := hr122.toC
     clear hr122
     try go_wp2_with (first | ((with_reducible refine gate_store (t := 26) (p := 3) rfl ?_); refine ev_put (by rfl) rfl rfl (g := g3) rfl (cs := #[.slice as125_0 t123.now.length ds125_0, .slice as125_1 t123.sure.length ds125_1, .slice as125_2 t123.last.length ds125_2, .slice as125_3 t123.slast.length ds125_3, .slice as125_4 t123.floors.length ds125_4]) rfl (Bk.below F89.out HB128.out) (by kernel_rfl) rfl rfl ?_; intro W129 BK130 HB131 HK132; have z0_ := HB0.out.size; have z1_ := HG.out; have z2_ := HG0.out; have z3_ := C21.out; have z4_ := C22.out; have z5_ := C23.out; have z6_ := HX67.out; have z7_ := HZ65.out; have z8_ := T86.out; have z9_ := HB128.out.size; have C133 := Ak (show W58.heap.size ≤ W79.heap.size ∧ W79.heap.size ≤ W126.heap.size from (by omega)); have T134 := Ak (show W126.heap.size ≤ W126.heap.size from (by omega)); have HB135 := Ak (below_at (below_step HB84.out HB128.out) HB131.out (by show w0.heap.size ≤ g3; omega)); have HK136 := Ak (HK132.out); have KP138 := Ak (kept_new (Kept.below KP87.out HB128.out) HK136.out (by show w.heap.size ≤ g3; omega)); have T137 := Ak (Nat.le_trans T134.out HK136.out.1); have F139 := Ak (Bk.kept (Bk.below F88.out HB128.out) HK136.out (fun h_ => (by obtain ⟨h1_, h2_⟩ := h_; omega))); have F140 := Ak (BK130.out); have F141 := Ak (StI.kept (StI.below F90.out HB128.out) HK136.out (fun k_ h_ => (by obtain ⟨h1_, h2_⟩ := h_; omega))); have F142 := Ak (StR.kept HRs125.out HK136.out (fun k_ h_ => (by obtain ⟨h1_, h2_⟩ := h_; omega))); have F143 := Ak (Rd.kept (Rd.below F91.out HB128.out) HK136.out (fun h_ => (by obtain ⟨h1_, h2_⟩ := h_; omega))); clear z0_ z1_ z2_ z3_ z4_ z5_ z6_ z7_ z8_ z9_))
     go_roundg ((i_ - 1).toNat)
     case measure => have h_ := HIk.out; have h1_ := K72.out; omega
     case rel => exact ⟨_, _, _, _, _, _, _, _, _, _, _, _, _, _, _, t123, W79.heap.size, W126.heap.size, i_ - 1, (by rw [w64 (by have h_ := HIk.out; have h1_ := HPOS.out; omega) (by have h_ := HIk.out; have h1_ := HPOS.out; omega)]), ⟨F139.out⟩, ⟨F140.out⟩, ⟨StR.toI F142.out⟩, ⟨Rd.less F143.out (by have h_ := HQ.out; omega)⟩, ⟨HB135.out⟩, ⟨KP138.out⟩, ⟨(by show g3 + 1 ≤ W129.heap.size; have z0_ := HB0.out.size; have z1_ := HG.out; have z2_ := HG0.out; have z3_ := C21.out; have z4_ := C22.out; have z5_ := C23.out; have z6_ := HX67.out; have z7_ := HZ65.out; have z8_ := C133.out; have z9_ := T137.out; omega)⟩, ⟨(by have h_ := HIk.out; have h1_ := K72.out; exact ⟨by omega, by omega, by omega⟩)⟩, ⟨(by show w.heap.size ≤ W79.heap.size ∧ W79.heap.size ≤ W126.heap.size ∧ W126.heap.size ≤ W129.heap.size ∧ (g3 < W79.heap.size ∨ W126.heap.size ≤ g3) ∧ (g2 < W79.heap.size ∨ W126.heap.size ≤ g2); have z0_ := HB0.out.size; have z1_ := HG.out; have z2_ := HG0.out; have z3_ := C21.out; have z4_ := C22.out; have z5_ := C23.out; have z6_ := HX67.out; have z7_ := HZ65.out; have z8_ := C133.out; have z9_ := T137.out; omega)⟩, ⟨(fallSt_small HT124.out HSt.out)⟩, ⟨(sized_fall_e HT124.out HZt.out)⟩⟩
    ·have d119 : (r73 == 1) = false := beq_eq_false_iff_ne.mpr c118
     (first | rw [d119] | (simp only [i64_w, i32_w]; rw [d119]) | skip)
     have K120 := Ak c118
     clear c118
     go_upto_if 31 with (fail)
     by_cases c144 : r73 = 2
     ·have d145 : (r73 == 2) = true := beq_iff_eq.mpr c144
      (first | rw [d145] | (simp only [i64_w, i32_w]; rw [d145]) | skip)
      have K146 := Ak c144
      clear c144
      go_wp2_with (fail)
      refine start_ (n := 10) (S := fun w' => Bk w' g3 #[.slice b0_ n0_ e0_, .slice b1_ n1_ e1_, .slice b2_ n2_ e2_, .slice b3_ n3_ e3_, .slice b4_ n4_ e4_] 26) (ds := [9]) #[false, false, false, false, false, false, false, false, false, false] (by kernel_rfl) rfl rfl (show Bk W79 g3 #[.slice b0_ n0_ e0_, .slice b1_ n1_ e1_, .slice b2_ n2_ e2_, .slice b3_ n3_ e3_, .slice b4_ n4_ e4_] 26 from F89.out) (fun hHeld => ?_)
      clear hHeld
      refine world_at (w := W79) (below_drew0 _) (fun W147 HB148 => ?_)
      refine take_ (i := 0) (N := some 34) (v := .agg #[.slice b0_ n0_ e0_, .slice b1_ n1_ e1_, .slice b2_ n2_ e2_, .slice b3_ n3_ e3_, .slice b4_ n4_ e4_]) (a' := ?_) #[true, false, false, false, false, false, false, false, false, false] rfl rfl (by kernel_rfl) (fun _ _ _ h => h) (Or.inl ⟨by rfl, ?_⟩) (Bk.below F89.out HB148.out) ?_ ?_
      ·rintro w' s0_
       exact run_load_ev rfl rfl s0_ hu26 rfl (by kernel_rfl)
      rotate_left
      ·simp only [Act.put, List.setIfInBounds_toArray, List.set_cons_zero, List.set_cons_succ, i64_w, i32_w]
       rfl
      refine pure_ (i := 1) (N := some 35) (v := ?_) (a' := ?_) #[true, true, false, false, false, false, false, false, false, false] rfl rfl (by kernel_rfl) (fun _ _ _ h => h) (Or.inl ⟨by rfl, ?_⟩) ?_ ?_
      rotate_left
      ·intro w'
       go_simp
       with_reducible rfl
      rotate_left
      ·simp only [Act.put, List.setIfInBounds_toArray, List.set_cons_zero, List.set_cons_succ, i64_w, i32_w]
       rfl
      refine pure_ (i := 3) (N := some 37) (v := ?_) (a' := ?_) #[true, true, false, true, false, false, false, false, false, false] rfl rfl (by kernel_rfl) (fun _ _ _ h => h) (Or.inl ⟨by rfl, ?_⟩) ?_ ?_
      rotate_left
      ·intro w'
       go_simp
       with_reducible rfl
      rotate_left
      ·simp only [Act.put, List.setIfInBounds_toArray, List.set_cons_zero, List.set_cons_succ, i64_w, i32_w]
       rfl
      refine one_ (i := 2) (N := some 36) #[true, true, true, true, false, false, false, false, false, false] rfl rfl (by kernel_rfl) (by decide) (fun K hK => ?_)
      refine goes_ Try.func60 (by kernel_rfl) rfl #[.pointer (some ⟨g, 0, none⟩), .int .i64 3] (by rfl) rfl rfl (by (try simp only [List.map_toArray, List.map_cons, List.map_nil]); first | done | rfl) ?_
      refine (pick_c (m := mq + 23) (Rd.below F91.out HB148.out) (below_step HB84.out HB148.out) (by omega)).mono ?_
      rintro e W155 ⟨r149, rfl, h150, h151, hR152, hb156, hk153⟩
      have z0_ := HB0.out.size
      have z1_ := HG.out
      have z2_ := HG0.out
      have z3_ := C21.out
      have z4_ := C22.out
      have z5_ := C23.out
      have z6_ := HX67.out
      have z7_ := HZ65.out
      have z8_ := T86.out
      have z9_ := HB148.out.size
      have T158 := Ak (show W58.heap.size ≤ W147.heap.size from (by omega))
      have HB159 := Ak (hb156)
      have HK160 := Ak (hk153)
      have KP162 := Ak (Kept.then_ (Kept.below KP87.out HB148.out) HK160.out (fun _ h_ => Or.inl h_))
      have T161 := Ak (Nat.le_trans T158.out HK160.out.1)
      have F163 := Ak (Bk.kept (Bk.below F88.out HB148.out) HK160.out N47.out)
      have F164 := Ak (Bk.kept (Bk.below F89.out HB148.out) HK160.out N49.out)
      have F165 := Ak (StI.kept (StI.below F90.out HB148.out) HK160.out N83.out)
      have F166 := Ak (hR152)
      clear z0_ z1_ z2_ z3_ z4_ z5_ z6_ z7_ z8_ z9_ hb156 hk153 hR152
      have HP154 := Ak (And.intro h150 h151)
      clear h150 h151
      refine ⟨_, rfl, ?_⟩
      refine hK.out _ _ F164.out (fun hHeld => ?_)
      clear hHeld hK K
      refine norm_ (a' := ?_) ?_ ?_
      rotate_left
      ·show Act.put _ (some 36) _ = _
       simp only [Act.put, List.setIfInBounds_toArray, List.set_cons_zero, List.set_cons_succ, i64_w, i32_w]
       rfl
      refine one_ (i := 4) (N := some 38) #[true, true, true, true, true, false, false, false, false, false] rfl rfl (by kernel_rfl) (by decide) (fun K hK => ?_)
      refine goes_ Try.func60 (by kernel_rfl) rfl #[.pointer (some ⟨g, 0, none⟩), .int .i64 4] (by rfl) rfl rfl (by (try simp only [List.map_toArray, List.map_cons, List.map_nil]); first | done | rfl) ?_
      refine (pick_c (m := mq + 22) F166.out HB159.out (by omega)).mono ?_
      rintro e W173 ⟨r167, rfl, h168, h169, hR170, hb174, hk171⟩
      have HB176 := Ak (hb174)
      have HK177 := Ak (hk171)
      have KP179 := Ak (Kept.then_ KP162.out HK177.out (fun _ h_ => Or.inl h_))
      have T178 := Ak (Nat.le_trans T161.out HK177.out.1)
      have F180 := Ak (Bk.kept F163.out HK177.out N47.out)
      have F181 := Ak (Bk.kept F164.out HK177.out N49.out)
      have F182 := Ak (StI.kept F165.out HK177.out N83.out)
      have F183 := Ak (hR170)
      clear hb174 hk171 hR170
      have HP172 := Ak (And.intro h168 h169)
      clear h168 h169
      refine ⟨_, rfl, ?_⟩
      refine hK.out _ _ F181.out (fun hHeld => ?_)
      clear hHeld hK K
      refine norm_ (a' := ?_) ?_ ?_
      rotate_left
      ·show Act.put _ (some 38) _ = _
       simp only [Act.put, List.setIfInBounds_toArray, List.set_cons_zero, List.set_cons_succ, i64_w, i32_w]
       rfl
      refine one_ (i := 5) (N := some 39) #[true, true, true, true, true, true, false, false, false, false] rfl rfl (by kernel_rfl) (by decide) (fun K hK => ?_)
      refine goes_ Try.func43 (by kernel_rfl) rfl #[.agg #[.slice b0_ n0_ e0_, .slice b1_ n1_ e1_, .slice b2_ n2_ e2_, .slice b3_ n3_ e3_, .slice b4_ n4_ e4_], .int .i64 r149, .int .i64 r167] (by rfl) rfl rfl (by (try simp only [List.map_toArray, List.map_cons, List.map_nil]); first | done | rfl) ?_
      obtain ⟨⟨t186, q188⟩, ht_⟩ : ∃ x_, fenceSt t_ r149 r167 = x_ := ⟨_, rfl⟩
      have HT187 := Ak ht_
      clear ht_
      refine (spec_StoreFence_c (StI.toC F182.out) HZt.out HSt.out HT187.out).mono ?_
      rintro e W190 ⟨u184, rfl, hr185, hb191⟩
      have HB192 := Ak hb191
      clear hb191
      have HRs189 := Ak hr185
      obtain ⟨as189_0, ds189_0, as189_1, ds189_1, as189_2, ds189_2, as189_3, ds189_3, as189_4, ds189_4, rfl, _⟩ := hr185.toC
      clear hr185
      refine ⟨_, rfl, ?_⟩
      refine hK.out _ _ (Bk.below F181.out HB192.out) (fun hHeld => ?_)
      clear hHeld hK K
      refine norm_ (a' := ?_) ?_ ?_
      rotate_left
      ·show Act.put _ (some 39) _ = _
       simp only [Act.put, List.setIfInBounds_toArray, List.set_cons_zero, List.set_cons_succ, i64_w, i32_w]
       rfl
      refine pure_ (i := 6) (N := some 33) (v := ?_) (a' := ?_) #[true, true, true, true, true, true, true, false, false, false] rfl rfl (by kernel_rfl) (fun _ _ _ h => h) (Or.inl ⟨by rfl, ?_⟩) ?_ ?_
      rotate_left
      ·intro w'
       go_simp
       with_reducible rfl
      rotate_left
      ·simp only [Act.put, List.setIfInBounds_toArray, List.set_cons_zero, List.set_cons_succ, i64_w, i32_w]
       rfl
      refine pure_ (i := 7) (N := some 40) (v := ?_) (a' := ?_) #[true, true, true, true, true, true, true, true, false, false] rfl rfl (by kernel_rfl) (fun _ _ _ h => h) (Or.inl ⟨by rfl, ?_⟩) ?_ ?_
      rotate_left
      ·intro w'
       go_simp
       with_reducible rfl
      rotate_left
      ·simp only [Act.put, List.setIfInBounds_toArray, List.set_cons_zero, List.set_cons_succ, i64_w, i32_w]
       rfl
      refine pure_ (i := 8) (N := some 41) (v := ?_) (a' := ?_) #[true, true, true, true, true, true, true, true, true, false] rfl rfl (by kernel_rfl) (fun _ _ _ h => h) (Or.inl ⟨by rfl, ?_⟩) ?_ ?_
      rotate_left
      ·intro w'
       go_simp
       with_reducible rfl
      rotate_left
      ·simp only [Act.put, List.setIfInBounds_toArray, List.set_cons_zero, List.set_cons_succ, i64_w, i32_w]
       rfl
      refine last_ (i := 9) (N := none) #[true, true, true, true, true, true, true, true, true, true] rfl rfl (by kernel_rfl) (by decide) (fun K hK => ?_)
      refine wp_storeRow_step (by rfl) rfl rfl (g := g3) (cs := #[.slice as189_0 t186.now.length ds189_0, .slice as189_1 t186.sure.length ds189_1, .slice as189_2 t186.last.length ds189_2, .slice as189_3 t186.slast.length ds189_3, .slice as189_4 t186.floors.length ds189_4]) rfl rfl (Bk.below F181.out HB192.out) (by kernel_rfl) rfl rfl ?_
      intro W193 hbk194 hg195
      have z0_ := HB0.out.size
      have z1_ := HG.out
      have z2_ := HG0.out
      have z3_ := C21.out
      have z4_ := C22.out
      have z5_ := C23.out
      have z6_ := HX67.out
      have z7_ := HZ65.out
      have z8_ := T178.out
      have z9_ := HB192.out.size
      have C196 := Ak (show W58.heap.size ≤ W173.heap.size ∧ W173.heap.size ≤ W190.heap.size from (by omega))
      have T197 := Ak (show W190.heap.size ≤ W190.heap.size from (by omega))
      have HB198 := Ak (below_at (below_step HB176.out HB192.out) hg195.1 (by show w0.heap.size ≤ g3; omega))
      have HK199 := Ak (kept_row hg195)
      have KP201 := Ak (kept_new (Kept.below KP179.out HB192.out) HK199.out (by show w.heap.size ≤ g3; omega))
      have T200 := Ak (Nat.le_trans T197.out HK199.out.1)
      have F202 := Ak (Bk.kept (Bk.below F180.out HB192.out) HK199.out (fun h_ => (by obtain ⟨h1_, h2_⟩ := h_; omega)))
      have F203 := Ak (hbk194)
      have F204 := Ak (StI.kept (StI.below F182.out HB192.out) HK199.out (fun k_ h_ => (by obtain ⟨h1_, h2_⟩ := h_; omega)))
      have F205 := Ak (StR.kept HRs189.out HK199.out (fun k_ h_ => (by obtain ⟨h1_, h2_⟩ := h_; omega)))
      have F206 := Ak (Rd.kept (Rd.below F183.out HB192.out) HK199.out (fun h_ => (by obtain ⟨h1_, h2_⟩ := h_; omega)))
      clear z0_ z1_ z2_ z3_ z4_ z5_ z6_ z7_ z8_ z9_ hbk194 hg195
      refine hK.out _ _ ?_
      clear hK K
      refine done_ (by kernel_rfl) ?_
      try go_wp2
      go_roundg ((i_ - 1).toNat)
      case measure => have h_ := HIk.out; have h1_ := K72.out; omega
      case rel => exact ⟨_, _, _, _, _, _, _, _, _, _, _, _, _, _, _, t186, W173.heap.size, W190.heap.size, i_ - 1, (by rw [w64 (by have h_ := HIk.out; have h1_ := HPOS.out; omega) (by have h_ := HIk.out; have h1_ := HPOS.out; omega)]), ⟨F202.out⟩, ⟨F203.out⟩, ⟨StR.toI F205.out⟩, ⟨Rd.less F206.out (by have h_ := HQ.out; omega)⟩, ⟨HB198.out⟩, ⟨KP201.out⟩, ⟨(by show g3 + 1 ≤ W193.heap.size; have z0_ := HB0.out.size; have z1_ := HG.out; have z2_ := HG0.out; have z3_ := C21.out; have z4_ := C22.out; have z5_ := C23.out; have z6_ := HX67.out; have z7_ := HZ65.out; have z8_ := C196.out; have z9_ := T200.out; omega)⟩, ⟨(by have h_ := HIk.out; have h1_ := K72.out; exact ⟨by omega, by omega, by omega⟩)⟩, ⟨(by show w.heap.size ≤ W173.heap.size ∧ W173.heap.size ≤ W190.heap.size ∧ W190.heap.size ≤ W193.heap.size ∧ (g3 < W173.heap.size ∨ W190.heap.size ≤ g3) ∧ (g2 < W173.heap.size ∨ W190.heap.size ≤ g2); have z0_ := HB0.out.size; have z1_ := HG.out; have z2_ := HG0.out; have z3_ := C21.out; have z4_ := C22.out; have z5_ := C23.out; have z6_ := HX67.out; have z7_ := HZ65.out; have z8_ := C196.out; have z9_ := T200.out; omega)⟩, ⟨(fenceSt_small HT187.out HSt.out)⟩, ⟨(sized_fence_e HT187.out HZt.out)⟩⟩
     ·have d145 : (r73 == 2) = false := beq_eq_false_iff_ne.mpr c144
      (first | rw [d145] | (simp only [i64_w, i32_w]; rw [d145]) | skip)
      have K146 := Ak c144
      clear c144
      go_wp2_with (fail)
      refine start_ (n := 9) (S := fun w' => Bk w' g3 #[.slice b0_ n0_ e0_, .slice b1_ n1_ e1_, .slice b2_ n2_ e2_, .slice b3_ n3_ e3_, .slice b4_ n4_ e4_] 26) (ds := [8]) #[false, false, false, false, false, false, false, false, false] (by kernel_rfl) rfl rfl (show Bk W79 g3 #[.slice b0_ n0_ e0_, .slice b1_ n1_ e1_, .slice b2_ n2_ e2_, .slice b3_ n3_ e3_, .slice b4_ n4_ e4_] 26 from F89.out) (fun hHeld => ?_)
      clear hHeld
      refine world_at (w := W79) (below_drew0 _) (fun W207 HB208 => ?_)
      refine take_ (i := 0) (N := some 16) (v := .agg #[.slice b0_ n0_ e0_, .slice b1_ n1_ e1_, .slice b2_ n2_ e2_, .slice b3_ n3_ e3_, .slice b4_ n4_ e4_]) (a' := ?_) #[true, false, false, false, false, false, false, false, false] rfl rfl (by kernel_rfl) (fun _ _ _ h => h) (Or.inl ⟨by rfl, ?_⟩) (Bk.below F89.out HB208.out) ?_ ?_
      ·rintro w' s0_
       exact run_load_ev rfl rfl s0_ hu26 rfl (by kernel_rfl)
      rotate_left
      ·simp only [Act.put, List.setIfInBounds_toArray, List.set_cons_zero, List.set_cons_succ, i64_w, i32_w]
       rfl
      refine pure_ (i := 1) (N := some 17) (v := ?_) (a' := ?_) #[true, true, false, false, false, false, false, false, false] rfl rfl (by kernel_rfl) (fun _ _ _ h => h) (Or.inl ⟨by rfl, ?_⟩) ?_ ?_
      rotate_left
      ·intro w'
       go_simp
       with_reducible rfl
      rotate_left
      ·simp only [Act.put, List.setIfInBounds_toArray, List.set_cons_zero, List.set_cons_succ, i64_w, i32_w]
       rfl
      refine take_ (i := 2) (N := some 18) (v := .agg #[.slice b0_ n0_ e0_, .slice b1_ n1_ e1_, .slice b2_ n2_ e2_, .slice b3_ n3_ e3_, .slice b4_ n4_ e4_]) (a' := ?_) #[true, true, true, false, false, false, false, false, false] rfl rfl (by kernel_rfl) (fun _ _ _ h => h) (Or.inl ⟨by rfl, ?_⟩) (Bk.below F89.out HB208.out) ?_ ?_
      ·rintro w' s0_
       exact run_load_ev rfl rfl s0_ hu26 rfl (by kernel_rfl)
      rotate_left
      ·simp only [Act.put, List.setIfInBounds_toArray, List.set_cons_zero, List.set_cons_succ, i64_w, i32_w]
       rfl
      refine one_ (i := 3) (N := some 19) #[true, true, true, true, false, false, false, false, false] rfl rfl (by kernel_rfl) (by decide) (fun K hK => ?_)
      refine goes_ Try.func61 (by kernel_rfl) rfl #[.pointer (some ⟨g, 0, none⟩), .agg #[.slice b0_ n0_ e0_, .slice b1_ n1_ e1_, .slice b2_ n2_ e2_, .slice b3_ n3_ e3_, .slice b4_ n4_ e4_]] (by rfl) rfl rfl (by (try simp only [List.map_toArray, List.map_cons, List.map_nil]); first | done | rfl) ?_
      refine (l5Ask_c (m := mq + 4) (below_step HB84.out HB208.out) (Rd.below F91.out HB208.out) (StI.below F90.out HB208.out) (by show g < lo_ ∨ hi_ ≤ g; have z0_ := HB0.out.size; have z1_ := HG.out; have z2_ := HG0.out; have z3_ := C21.out; have z4_ := C22.out; have z5_ := C23.out; have z6_ := HX67.out; have z7_ := HZ65.out; have z8_ := T86.out; have z9_ := HB208.out.size; omega) (by show hi_ ≤ W207.heap.size; have z0_ := HB0.out.size; have z1_ := HG.out; have z2_ := HG0.out; have z3_ := C21.out; have z4_ := C22.out; have z5_ := C23.out; have z6_ := HX67.out; have z7_ := HZ65.out; have z8_ := T86.out; have z9_ := HB208.out.size; omega)).mono ?_
      rintro e W219 ⟨who209, ep210, num211, obj212, at213, data214, rfl, hd215, hR216, hb220, hk217⟩
      have z0_ := HB0.out.size
      have z1_ := HG.out
      have z2_ := HG0.out
      have z3_ := C21.out
      have z4_ := C22.out
      have z5_ := C23.out
      have z6_ := HX67.out
      have z7_ := HZ65.out
      have z8_ := T86.out
      have z9_ := HB208.out.size
      have T222 := Ak (show W58.heap.size ≤ W207.heap.size from (by omega))
      have HB223 := Ak (hb220)
      have HK224 := Ak (hk217)
      have KP226 := Ak (Kept.then_ (Kept.below KP87.out HB208.out) HK224.out (fun _ h_ => Or.inl h_))
      have T225 := Ak (Nat.le_trans T222.out HK224.out.1)
      have F227 := Ak (Bk.kept (Bk.below F88.out HB208.out) HK224.out N47.out)
      have F228 := Ak (Bk.kept (Bk.below F89.out HB208.out) HK224.out N49.out)
      have F229 := Ak (StI.kept (StI.below F90.out HB208.out) HK224.out N83.out)
      have F230 := Ak (hR216)
      clear z0_ z1_ z2_ z3_ z4_ z5_ z6_ z7_ z8_ z9_ hb220 hk217 hR216
      have HD218 := Ak hd215
      clear hd215
      refine ⟨_, rfl, ?_⟩
      refine hK.out _ _ F228.out (fun hHeld => ?_)
      clear hHeld hK K
      refine norm_ (a' := ?_) ?_ ?_
      rotate_left
      ·show Act.put _ (some 19) _ = _
       simp only [Act.put, List.setIfInBounds_toArray, List.set_cons_zero, List.set_cons_succ, i64_w, i32_w]
       rfl
      refine one_ (i := 4) (N := some 20) #[true, true, true, true, true, false, false, false, false] rfl rfl (by kernel_rfl) (by decide) (fun K hK => ?_)
      refine goes_ Try.func39 (by kernel_rfl) rfl #[.agg #[.slice b0_ n0_ e0_, .slice b1_ n1_ e1_, .slice b2_ n2_ e2_, .slice b3_ n3_ e3_, .slice b4_ n4_ e4_], .agg #[.int .i64 who209, .int .i64 ep210, .int .i64 num211, .int .i64 obj212, .int .i64 at213, .string data214]] (by rfl) rfl rfl (by (try simp only [List.map_toArray, List.map_cons, List.map_nil]); first | done | rfl) ?_
      obtain ⟨⟨t233, q235⟩, ht_⟩ : ∃ x_, storeDo t_ ⟨who209, ep210, num211, obj212, at213, data214⟩ = x_ := ⟨_, rfl⟩
      have HT234 := Ak ht_
      clear ht_
      refine (spec_StoreDo_c (StI.toC F229.out) HZt.out HSt.out HD218.out HT234.out).mono ?_
      rintro e W237 ⟨u231, rfl, hr232, hb238⟩
      have HB239 := Ak hb238
      clear hb238
      have HRs236 := Ak hr232
      obtain ⟨as236_0, ds236_0, as236_1, ds236_1, as236_2, ds236_2, as236_3, ds236_3, as236_4, ds236_4, rfl, _⟩ := hr232.toC
      clear hr232
      refine ⟨_, rfl, ?_⟩
      refine hK.out _ _ (Bk.below F228.out HB239.out) (fun hHeld => ?_)
      clear hHeld hK K
      refine norm_ (a' := ?_) ?_ ?_
      rotate_left
      ·show Act.put _ (some 20) _ = _
       simp only [Act.put, List.setIfInBounds_toArray, List.set_cons_zero, List.set_cons_succ, i64_w, i32_w]
       rfl
      refine pure_ (i := 5) (N := some 15) (v := ?_) (a' := ?_) #[true, true, true, true, true, true, false, false, false] rfl rfl (by kernel_rfl) (fun _ _ _ h => h) (Or.inl ⟨by rfl, ?_⟩) ?_ ?_
      rotate_left
      ·intro w'
       go_simp
       with_reducible rfl
      rotate_left
      ·simp only [Act.put, List.setIfInBounds_toArray, List.set_cons_zero, List.set_cons_succ, i64_w, i32_w]
       rfl
      refine pure_ (i := 6) (N := some 21) (v := ?_) (a' := ?_) #[true, true, true, true, true, true, true, false, false] rfl rfl (by kernel_rfl) (fun _ _ _ h => h) (Or.inl ⟨by rfl, ?_⟩) ?_ ?_
      rotate_left
      ·intro w'
       go_simp
       with_reducible rfl
      rotate_left
      ·simp only [Act.put, List.setIfInBounds_toArray, List.set_cons_zero, List.set_cons_succ, i64_w, i32_w]
       rfl
      refine pure_ (i := 7) (N := some 22) (v := ?_) (a' := ?_) #[true, true, true, true, true, true, true, true, false] rfl rfl (by kernel_rfl) (fun _ _ _ h => h) (Or.inl ⟨by rfl, ?_⟩) ?_ ?_
      rotate_left
      ·intro w'
       go_simp
       with_reducible rfl
      rotate_left
      ·simp only [Act.put, List.setIfInBounds_toArray, List.set_cons_zero, List.set_cons_succ, i64_w, i32_w]
       rfl
      refine last_ (i := 8) (N := none) #[true, true, true, true, true, true, true, true, true] rfl rfl (by kernel_rfl) (by decide) (fun K hK => ?_)
      refine wp_storeRow_step (by rfl) rfl rfl (g := g3) (cs := #[.slice as236_0 t233.now.length ds236_0, .slice as236_1 t233.sure.length ds236_1, .slice as236_2 t233.last.length ds236_2, .slice as236_3 t233.slast.length ds236_3, .slice as236_4 t233.floors.length ds236_4]) rfl rfl (Bk.below F228.out HB239.out) (by kernel_rfl) rfl rfl ?_
      intro W240 hbk241 hg242
      have z0_ := HB0.out.size
      have z1_ := HG.out
      have z2_ := HG0.out
      have z3_ := C21.out
      have z4_ := C22.out
      have z5_ := C23.out
      have z6_ := HX67.out
      have z7_ := HZ65.out
      have z8_ := T225.out
      have z9_ := HB239.out.size
      have C243 := Ak (show W58.heap.size ≤ W219.heap.size ∧ W219.heap.size ≤ W237.heap.size from (by omega))
      have T244 := Ak (show W237.heap.size ≤ W237.heap.size from (by omega))
      have HB245 := Ak (below_at (below_step HB223.out HB239.out) hg242.1 (by show w0.heap.size ≤ g3; omega))
      have HK246 := Ak (kept_row hg242)
      have KP248 := Ak (kept_new (Kept.below KP226.out HB239.out) HK246.out (by show w.heap.size ≤ g3; omega))
      have T247 := Ak (Nat.le_trans T244.out HK246.out.1)
      have F249 := Ak (Bk.kept (Bk.below F227.out HB239.out) HK246.out (fun h_ => (by obtain ⟨h1_, h2_⟩ := h_; omega)))
      have F250 := Ak (hbk241)
      have F251 := Ak (StI.kept (StI.below F229.out HB239.out) HK246.out (fun k_ h_ => (by obtain ⟨h1_, h2_⟩ := h_; omega)))
      have F252 := Ak (StR.kept HRs236.out HK246.out (fun k_ h_ => (by obtain ⟨h1_, h2_⟩ := h_; omega)))
      have F253 := Ak (Rd.kept (Rd.below F230.out HB239.out) HK246.out (fun h_ => (by obtain ⟨h1_, h2_⟩ := h_; omega)))
      clear z0_ z1_ z2_ z3_ z4_ z5_ z6_ z7_ z8_ z9_ hbk241 hg242
      refine hK.out _ _ ?_
      clear hK K
      refine done_ (by kernel_rfl) ?_
      try go_wp2
      go_roundg ((i_ - 1).toNat)
      case measure => have h_ := HIk.out; have h1_ := K72.out; omega
      case rel => exact ⟨_, _, _, _, _, _, _, _, _, _, _, _, _, _, _, t233, W219.heap.size, W237.heap.size, i_ - 1, (by rw [w64 (by have h_ := HIk.out; have h1_ := HPOS.out; omega) (by have h_ := HIk.out; have h1_ := HPOS.out; omega)]), ⟨F249.out⟩, ⟨F250.out⟩, ⟨StR.toI F252.out⟩, ⟨Rd.less F253.out (by have h_ := HQ.out; omega)⟩, ⟨HB245.out⟩, ⟨KP248.out⟩, ⟨(by show g3 + 1 ≤ W240.heap.size; have z0_ := HB0.out.size; have z1_ := HG.out; have z2_ := HG0.out; have z3_ := C21.out; have z4_ := C22.out; have z5_ := C23.out; have z6_ := HX67.out; have z7_ := HZ65.out; have z8_ := C243.out; have z9_ := T247.out; omega)⟩, ⟨(by have h_ := HIk.out; have h1_ := K72.out; exact ⟨by omega, by omega, by omega⟩)⟩, ⟨(by show w.heap.size ≤ W219.heap.size ∧ W219.heap.size ≤ W237.heap.size ∧ W237.heap.size ≤ W240.heap.size ∧ (g3 < W219.heap.size ∨ W237.heap.size ≤ g3) ∧ (g2 < W219.heap.size ∨ W237.heap.size ≤ g2); have z0_ := HB0.out.size; have z1_ := HG.out; have z2_ := HG0.out; have z3_ := C21.out; have z4_ := C22.out; have z5_ := C23.out; have z6_ := HX67.out; have z7_ := HZ65.out; have z8_ := C243.out; have z9_ := T247.out; omega)⟩, ⟨(storeDo_small HT234.out HSt.out)⟩, ⟨(sized_do_e HT234.out HZt.out)⟩⟩
  ·have d71 : decide (i_ > 0) = false := decide_eq_false c70
   (first | rw [d71] | (simp only [i64_w, i32_w]; rw [d71]) | skip)
   have K72 := Ak c70
   clear c70
   go_wp2_with (first | ((with_reducible refine gate_dst (N := 42) rfl ?_); refine ev_load rfl (N := 42) rfl rfl (g := g3) rfl (cs := #[.slice b0_ n0_ e0_, .slice b1_ n1_ e1_, .slice b2_ n2_ e2_, .slice b3_ n3_ e3_, .slice b4_ n4_ e4_]) BK60.out hu26 rfl (by kernel_rfl) ?_) | ((with_reducible refine gate_store (t := 26) (p := 2) rfl ?_); refine ev_put (by rfl) rfl rfl (g := g2) rfl (cs := #[.slice b0_ n0_ e0_, .slice b1_ n1_ e1_, .slice b2_ n2_ e2_, .slice b3_ n3_ e3_, .slice b4_ n4_ e4_]) rfl BK59.out (by kernel_rfl) rfl rfl ?_; intro W254 BK255 HB256 HK257; have z0_ := HB0.out.size; have z1_ := HG.out; have z2_ := HG0.out; have z3_ := C21.out; have z4_ := C22.out; have z5_ := C23.out; have z6_ := HX67.out; have z7_ := HZ65.out; have z8_ := TW.out; have T258 := Ak (show W58.heap.size ≤ W58.heap.size from (by omega)); have HB259 := Ak (below_at HB63.out HB256.out (by show w0.heap.size ≤ g2; omega)); have HK260 := Ak (HK257.out); have KP262 := Ak (kept_new KP64.out HK260.out (by show w.heap.size ≤ g2; omega)); have T261 := Ak (Nat.le_trans T258.out HK260.out.1); have F263 := Ak (BK255.out); have F264 := Ak (Bk.kept BK60.out HK260.out (fun h_ => (by obtain ⟨h1_, h2_⟩ := h_; omega))); have F265 := Ak (StI.kept HR61.out HK260.out (fun k_ h_ => (by obtain ⟨h1_, h2_⟩ := h_; omega))); have F266 := Ak (Rd.kept RD62.out HK260.out (fun h_ => (by obtain ⟨h1_, h2_⟩ := h_; omega))); clear z0_ z1_ z2_ z3_ z4_ z5_ z6_ z7_ z8_))
   try go_wp2
   refine bodyPost_ret (results_cell_row rfl _ _ g2 26 #[.slice b0_ n0_ e0_, .slice b1_ n1_ e1_, .slice b2_ n2_ e2_, .slice b3_ n3_ e3_, .slice b4_ n4_ e4_] (0, 0) _ rfl F263.out hu26 rfl (by kernel_rfl)) rfl ?_
   have HWI := StI.widen F265.out (lo' := w.heap.size) (hi' := W254.heap.size) (by have z0_ := HB0.out.size; have z1_ := HG.out; have z2_ := HG0.out; have z3_ := C21.out; have z4_ := C22.out; have z5_ := C23.out; have z6_ := HX67.out; have z7_ := HZ65.out; have z8_ := T261.out; omega) (by have z0_ := HB0.out.size; have z1_ := HG.out; have z2_ := HG0.out; have z3_ := C21.out; have z4_ := C22.out; have z5_ := C23.out; have z6_ := HX67.out; have z7_ := HZ65.out; have z8_ := T261.out; omega); have HRL := Rd.less F266.out (show m ≤ _ by omega); first | exact ⟨_, _, rfl, HWI, HSt.out, HZt.out, HRL, HB259.out, KP262.out⟩ | exact ⟨_, rfl, _, HWI, HSt.out, HZt.out, HRL, HB259.out, KP262.out⟩
end Go.Proofs.Ytmekkapacbdbeaa.P
namespace Go.Proofs.Ytmekkapacbdbeaa.P
open Go.RowKit Go.Proofs.YtmekkapacbdbeaaW.PrintWords Go.Proofs.YtmekkapacbdbeaaW.PrintLast Go.Proofs.YtmekkapacbdbeaaW.PrintMore
set_option linter.unusedVariables false
set_option linter.unusedSimpArgs false
set_option maxHeartbeats 8000000 in
set_option maxRecDepth 100000 in
theorem DrawStoreRead_c {w : World} {A : Option Addr} {c : Nat} {l : List Int} (hl : Kd.C (Kd.int .u8) w A l.length l) (hc : l.length ≤ c) (hb : ∀ x ∈ l, 0 ≤ x ∧ x ≤ 255) :
  Calls Try.prog 30 #[.slice A l.length c] w fun e w' => ∃ u t, ∃ obj lo hi : Int, e = .returned (.tuple #[u, .int .i64 obj, .agg #[.int .i64 lo, .int .i64 hi]]) ∧ StI w' w.heap.size w'.heap.size u t ∧ Small t ∧ Sized t ∧ Below w.heap.size w w' := by
 have HL := Ak hl
 have HLC := Ak hc
 have HLB := Ak hb
 have HT0 := Ak (Nat.le_refl w.heap.size)
 clear hl hc hb
 have hu26 := Try.underlying26
 have hu42 := Try.underlying42
 go_enter Try.func30, Try.ntmps30
 go_wp2_with (first | ((with_reducible refine gate_dst (N := 2) rfl ?_); refine ev_box ?hg (N := 2) ?hd (cs := #[.slice none 0 0, .slice none 0 0, .slice none 0 0, .slice none 0 0, .slice none 0 0]) (t := 26) ?hr ?_; (case hd => rfl); (case hg => rfl); (case hr => first | (go_simp; done) | (go_simp; rfl)); intro g2 W1 HG4 BK2 HB3) | ((with_reducible refine gate_dst (N := 4) rfl ?_); refine ev_box ?hg (N := 4) ?hd (cs := #[.int .i64 0, .int .i64 0]) (t := 42) ?hr ?_; (case hd => rfl); (case hg => rfl); (case hr => first | (go_simp; done) | (go_simp; rfl)); intro g4 W5 HG8 BK6 HB7))
 have HBR := Ak ((below_step HB3.out HB7.out))
 have z0_ := HT0.out
 have z1_ := HB3.out.size
 have z2_ := HG4.out
 have z3_ := BK2.out.lt
 have z4_ := HB7.out.size
 have z5_ := HG8.out
 have z6_ := BK6.out.lt
 have C9 := Ak (show w.heap.size ≤ g2 ∧ g2 ≤ g2 + 1 from (by omega))
 have C10 := Ak (show g2 + 1 ≤ g4 ∧ g4 ≤ g4 + 1 from (by omega))
 have T11 := Ak (show g4 + 1 ≤ W5.heap.size from (by omega))
 clear z0_ z1_ z2_ z3_ z4_ z5_ z6_
 have F12 := Ak ((Bk.below BK2.out HB7.out))
 have F13 := Ak (BK6.out)
 refine (open_c (Kd.C_below HL.out HBR.out) HLC.out HLB.out).mono ?_
 rintro e W16 ⟨g, rfl, hR14, hge15, hb17⟩
 have HB18 := Ak hb17
 clear hb17
 have HRD := Ak hR14
 have HGE := Ak hge15
 clear hR14 hge15
 go_wp2_with (fail)
 refine (l5Some_c (m := 0 + 999648) HB18.out HRD.out).mono ?_
 rintro e W29 ⟨u19, t20, rfl, hr21, hs22, hz23, hR24, hb30, hk25⟩
 have z0_ := C9.out
 have z1_ := C10.out
 have z2_ := HBR.out.size
 have z3_ := T11.out
 have z4_ := HB18.out.size
 have z5_ := HGE.out
 have z6_ := HRD.out.lt
 have C32 := Ak (show g4 + 1 ≤ g ∧ g ≤ g + 1 from (by omega))
 have T33 := Ak (show g + 1 ≤ W16.heap.size from (by omega))
 have N34 := Ak (show ¬ (g ≤ g2 ∧ g2 < g + 1) from (by omega))
 have N35 := Ak (show ¬ (g ≤ g4 ∧ g4 < g + 1) from (by omega))
 have HB36 := Ak (hb30)
 have HK37 := Ak (hk25)
 have T38 := Ak (Nat.le_trans T33.out HK37.out.1)
 have F39 := Ak (Bk.kept (Bk.below F12.out HB18.out) HK37.out N34.out)
 have F40 := Ak (Bk.kept (Bk.below F13.out HB18.out) HK37.out N35.out)
 have F41 := Ak (hR24)
 clear z0_ z1_ z2_ z3_ z4_ z5_ z6_ hb30 hk25 hR24
 have HRs26 := Ak hr21
 have HS27 := Ak hs22
 have HZ28 := Ak hz23
 obtain ⟨as26_0, ds26_0, as26_1, ds26_1, as26_2, ds26_2, as26_3, ds26_3, as26_4, ds26_4, rfl, _⟩ := hr21.toC
 clear hr21 hs22 hz23
 have C42 := Ak (show g + 1 ≤ W16.heap.size ∧ W16.heap.size ≤ W29.heap.size from ⟨T33.out, HK37.out.1⟩)
 have T43 := Ak (Nat.le_refl (W29.heap.size))
 go_wp2_with (fail)
 refine (l5Bent_c (m := 0 + 999646) HB36.out F41.out HRs26.out (by show g < W16.heap.size ∨ W29.heap.size ≤ g; have z0_ := C9.out; have z1_ := C10.out; have z2_ := HBR.out.size; have z3_ := HGE.out; have z4_ := C32.out; have z5_ := C42.out; have z6_ := T43.out; omega) (by show W29.heap.size ≤ W29.heap.size; have z0_ := C9.out; have z1_ := C10.out; have z2_ := HBR.out.size; have z3_ := HGE.out; have z4_ := C32.out; have z5_ := C42.out; have z6_ := T43.out; omega) HS27.out HZ28.out).mono ?_
 rintro e W54 ⟨u44, t45, rfl, hr46, hs47, hz48, hR49, hb55, hk50⟩
 have z0_ := C9.out
 have z1_ := C10.out
 have z2_ := HBR.out.size
 have z3_ := HGE.out
 have z4_ := C32.out
 have z5_ := C42.out
 have z6_ := T43.out
 have T57 := Ak (show W29.heap.size ≤ W29.heap.size from (by omega))
 have N58 := Ak (show ∀ k_, (g ≤ k_ ∧ k_ < g + 1) → k_ < W16.heap.size ∨ W29.heap.size ≤ k_ from (by intro k_ h_; omega))
 have HB59 := Ak (hb55)
 have HK60 := Ak (hk50)
 have T61 := Ak (Nat.le_trans T57.out HK60.out.1)
 have F62 := Ak (Bk.kept F39.out HK60.out N34.out)
 have F63 := Ak (Bk.kept F40.out HK60.out N35.out)
 have F64 := Ak (StI.kept HRs26.out HK60.out N58.out)
 have F65 := Ak (hR49)
 clear z0_ z1_ z2_ z3_ z4_ z5_ z6_ hb55 hk50 hR49
 have HRs51 := Ak hr46
 have HS52 := Ak hs47
 have HZ53 := Ak hz48
 obtain ⟨as51_0, ds51_0, as51_1, ds51_1, as51_2, ds51_2, as51_3, ds51_3, as51_4, ds51_4, rfl, _⟩ := hr46.toC
 clear hr46 hs47 hz48
 have C66 := Ak (show W29.heap.size ≤ W29.heap.size ∧ W29.heap.size ≤ W54.heap.size from ⟨T57.out, HK60.out.1⟩)
 have T67 := Ak (Nat.le_refl (W54.heap.size))
 go_wp2_with (first | ((with_reducible refine gate_dst (N := 6) rfl ?_); refine ev_box ?hg (N := 6) ?hd (cs := #[.slice none 0 0, .slice none 0 0, .slice none 0 0, .slice none 0 0, .slice none 0 0]) (t := 26) ?hr ?_; (case hd => rfl); (case hg => rfl); (case hr => first | (go_simp; done) | (go_simp; rfl)); intro g6 W68 HG71 BK69 HB70) | ((with_reducible refine gate_store (t := 26) (p := 6) rfl ?_); refine ev_put (by rfl) rfl rfl (g := g6) rfl (cs := #[.slice as51_0 t45.now.length ds51_0, .slice as51_1 t45.sure.length ds51_1, .slice as51_2 t45.last.length ds51_2, .slice as51_3 t45.slast.length ds51_3, .slice as51_4 t45.floors.length ds51_4]) rfl BK69.out (by kernel_rfl) rfl rfl ?_; intro W72 BK73 HB74 HK75; have z0_ := C9.out; have z1_ := C10.out; have z2_ := HBR.out.size; have z3_ := HGE.out; have z4_ := C32.out; have z5_ := C42.out; have z6_ := C66.out; have z7_ := T67.out; have z8_ := HB70.out.size; have z9_ := HG71.out; have z10_ := BK69.out.lt; have C76 := Ak (show W54.heap.size ≤ g6 ∧ g6 ≤ g6 + 1 from (by omega)); have T77 := Ak (show g6 + 1 ≤ W68.heap.size from (by omega)); have HB78 := Ak (below_at (below_step HB59.out HB70.out) HB74.out (by show W5.heap.size ≤ g6; omega)); have HK79 := Ak (HK75.out); have T80 := Ak (Nat.le_trans T77.out HK79.out.1); have F81 := Ak (Bk.kept (Bk.below F62.out HB70.out) HK79.out (fun h_ => (by obtain ⟨h1_, h2_⟩ := h_; omega))); have F82 := Ak (Bk.kept (Bk.below F63.out HB70.out) HK79.out (fun h_ => (by obtain ⟨h1_, h2_⟩ := h_; omega))); have F83 := Ak (StI.kept (StI.below F64.out HB70.out) HK79.out (fun k_ h_ => (by obtain ⟨h1_, h2_⟩ := h_; omega))); have F84 := Ak (StI.kept (StI.below HRs51.out HB70.out) HK79.out (fun k_ h_ => (by obtain ⟨h1_, h2_⟩ := h_; omega))); have F85 := Ak (BK73.out); have F86 := Ak (Rd.kept (Rd.below F65.out HB70.out) HK79.out (fun h_ => (by obtain ⟨h1_, h2_⟩ := h_; omega))); clear z0_ z1_ z2_ z3_ z4_ z5_ z6_ z7_ z8_ z9_ z10_) | ((with_reducible refine gate_dst (N := 15) rfl ?_); refine ev_lit (Kd.int .i64) 3 ?hg (N := 15) ?hd (xs := ([0, 1, 2, 0, 1, 2, (-1), 3] : List Int)) (inner := [.int .i64 0, .int .i64 1, .int .i64 2, .int .i64 0, .int .i64 1, .int .i64 2, .int .i64 (-1), .int .i64 3]) ?hr (reps_int ([0, 1, 2, 0, 1, 2, (-1), 3] : List Int)) (by simp) ?_; (case hd => rfl); (case hg => rfl); (case hr => first | (go_simp; done) | (go_simp; rfl)); intro A87 c88 W90 HL89 HB91))
 refine (num_c (m := 0 + 999645) (Rd.below F86.out HB91.out) (below_step HB78.out HB91.out) HL89.out.1 HL89.out.2.1 (fun ad_ e_ h_ => (by have q_ := HL89.out.2.2 ad_ e_ h_; show ad_.block ≠ g; have z0_ := C9.out; have z1_ := C10.out; have z2_ := HBR.out.size; have z3_ := HGE.out; have z4_ := C32.out; have z5_ := C42.out; have z6_ := C66.out; have z7_ := C76.out; have z8_ := T80.out; have z9_ := HB91.out.size; omega)) (by decide)).mono ?_
 rintro e W97 ⟨r92, rfl, hm93, hR94, hb98, hk95⟩
 have z0_ := C9.out
 have z1_ := C10.out
 have z2_ := HBR.out.size
 have z3_ := HGE.out
 have z4_ := C32.out
 have z5_ := C42.out
 have z6_ := C66.out
 have z7_ := C76.out
 have z8_ := T80.out
 have z9_ := HB91.out.size
 have T100 := Ak (show g6 + 1 ≤ W90.heap.size from (by omega))
 have N101 := Ak (show ∀ k_, (g ≤ k_ ∧ k_ < g + 1) → k_ < W29.heap.size ∨ W54.heap.size ≤ k_ from (by intro k_ h_; omega))
 have N102 := Ak (show ¬ (g ≤ g6 ∧ g6 < g + 1) from (by omega))
 have HB103 := Ak (hb98)
 have HK104 := Ak (hk95)
 have T105 := Ak (Nat.le_trans T100.out HK104.out.1)
 have F106 := Ak (Bk.kept (Bk.below F81.out HB91.out) HK104.out N34.out)
 have F107 := Ak (Bk.kept (Bk.below F82.out HB91.out) HK104.out N35.out)
 have F108 := Ak (StI.kept (StI.below F83.out HB91.out) HK104.out N58.out)
 have F109 := Ak (StI.kept (StI.below F84.out HB91.out) HK104.out N101.out)
 have F110 := Ak (Bk.kept (Bk.below F85.out HB91.out) HK104.out N102.out)
 have F111 := Ak (hR94)
 clear z0_ z1_ z2_ z3_ z4_ z5_ z6_ z7_ z8_ z9_ hb98 hk95 hR94
 have HM96 := Ak hm93
 clear hm93
 go_wp2_with (fail)
 refine (pick_c (m := 0 + 999644) F111.out HB103.out (by omega)).mono ?_
 rintro e W118 ⟨r112, rfl, h113, h114, hR115, hb119, hk116⟩
 have HB121 := Ak (hb119)
 have HK122 := Ak (hk116)
 have T123 := Ak (Nat.le_trans T105.out HK122.out.1)
 have F124 := Ak (Bk.kept F106.out HK122.out N34.out)
 have F125 := Ak (Bk.kept F107.out HK122.out N35.out)
 have F126 := Ak (StI.kept F108.out HK122.out N58.out)
 have F127 := Ak (StI.kept F109.out HK122.out N101.out)
 have F128 := Ak (Bk.kept F110.out HK122.out N102.out)
 have F129 := Ak (hR115)
 clear hb119 hk116 hR115
 have HP117 := Ak (And.intro h113 h114)
 clear h113 h114
 go_upto_if 19 with (fail)
 by_cases c130 : r112 = 0
 ·have d131 : (r112 == 0) = true := beq_iff_eq.mpr c130
  (first | rw [d131] | (simp only [i64_w, i32_w]; rw [d131]) | skip)
  have K132 := Ak c130
  clear c130
  go_wp2_with (fail)
  refine start_ (n := 11) (S := fun w' => Bk w' g6 #[.slice as51_0 t45.now.length ds51_0, .slice as51_1 t45.sure.length ds51_1, .slice as51_2 t45.last.length ds51_2, .slice as51_3 t45.slast.length ds51_3, .slice as51_4 t45.floors.length ds51_4] 26) (ds := [10]) #[false, false, false, false, false, false, false, false, false, false, false] (by kernel_rfl) rfl rfl (show Bk W118 g6 #[.slice as51_0 t45.now.length ds51_0, .slice as51_1 t45.sure.length ds51_1, .slice as51_2 t45.last.length ds51_2, .slice as51_3 t45.slast.length ds51_3, .slice as51_4 t45.floors.length ds51_4] 26 from F128.out) (fun hHeld => ?_)
  clear hHeld
  refine world_at (w := W118) (below_drew0 _) (fun W133 HB134 => ?_)
  refine take_ (i := 0) (N := some 20) (v := .agg #[.slice as51_0 t45.now.length ds51_0, .slice as51_1 t45.sure.length ds51_1, .slice as51_2 t45.last.length ds51_2, .slice as51_3 t45.slast.length ds51_3, .slice as51_4 t45.floors.length ds51_4]) (a' := ?_) #[true, false, false, false, false, false, false, false, false, false, false] rfl rfl (by kernel_rfl) (fun _ _ _ h => h) (Or.inl ⟨by rfl, ?_⟩) (Bk.below F128.out HB134.out) ?_ ?_
  ·rintro w' s0_
   exact run_load_ev rfl rfl s0_ hu26 rfl (by kernel_rfl)
  rotate_left
  ·simp only [Act.put, List.setIfInBounds_toArray, List.set_cons_zero, List.set_cons_succ, i64_w, i32_w]
   rfl
  refine pure_ (i := 1) (N := some 21) (v := ?_) (a' := ?_) #[true, true, false, false, false, false, false, false, false, false, false] rfl rfl (by kernel_rfl) (fun _ _ _ h => h) (Or.inl ⟨by rfl, ?_⟩) ?_ ?_
  rotate_left
  ·intro w'
   go_simp
   with_reducible rfl
  rotate_left
  ·simp only [Act.put, List.setIfInBounds_toArray, List.set_cons_zero, List.set_cons_succ, i64_w, i32_w]
   rfl
  refine pure_ (i := 2) (N := some 22) (v := ?_) (a' := ?_) #[true, true, true, false, false, false, false, false, false, false, false] rfl rfl (by kernel_rfl) (fun _ _ _ h => h) (Or.inl ⟨by rfl, ?_⟩) ?_ ?_
  rotate_left
  ·intro w'
   go_simp
   with_reducible rfl
  rotate_left
  ·simp only [Act.put, List.setIfInBounds_toArray, List.set_cons_zero, List.set_cons_succ, i64_w, i32_w]
   rfl
  refine pure_ (i := 4) (N := some 24) (v := ?_) (a' := ?_) #[true, true, true, false, true, false, false, false, false, false, false] rfl rfl (by kernel_rfl) (fun _ _ _ h => h) (Or.inl ⟨by rfl, ?_⟩) ?_ ?_
  rotate_left
  ·intro w'
   go_simp
   with_reducible rfl
  rotate_left
  ·simp only [Act.put, List.setIfInBounds_toArray, List.set_cons_zero, List.set_cons_succ, i64_w, i32_w]
   rfl
  refine one_ (i := 3) (N := some 23) #[true, true, true, true, true, false, false, false, false, false, false] rfl rfl (by kernel_rfl) (by decide) (fun K hK => ?_)
  refine goes_ Try.func60 (by kernel_rfl) rfl #[.pointer (some ⟨g, 0, none⟩), .int .i64 6] (by rfl) rfl rfl (by (try simp only [List.map_toArray, List.map_cons, List.map_nil]); first | done | rfl) ?_
  refine (pick_c (m := 0 + 999643) (Rd.below F129.out HB134.out) (below_step HB121.out HB134.out) (by omega)).mono ?_
  rintro e W141 ⟨r135, rfl, h136, h137, hR138, hb142, hk139⟩
  have z0_ := C9.out
  have z1_ := C10.out
  have z2_ := HBR.out.size
  have z3_ := HGE.out
  have z4_ := C32.out
  have z5_ := C42.out
  have z6_ := C66.out
  have z7_ := C76.out
  have z8_ := T123.out
  have z9_ := HB134.out.size
  have T144 := Ak (show g6 + 1 ≤ W133.heap.size from (by omega))
  have HB145 := Ak (hb142)
  have HK146 := Ak (hk139)
  have T147 := Ak (Nat.le_trans T144.out HK146.out.1)
  have F148 := Ak (Bk.kept (Bk.below F124.out HB134.out) HK146.out N34.out)
  have F149 := Ak (Bk.kept (Bk.below F125.out HB134.out) HK146.out N35.out)
  have F150 := Ak (StI.kept (StI.below F126.out HB134.out) HK146.out N58.out)
  have F151 := Ak (StI.kept (StI.below F127.out HB134.out) HK146.out N101.out)
  have F152 := Ak (Bk.kept (Bk.below F128.out HB134.out) HK146.out N102.out)
  have F153 := Ak (hR138)
  clear z0_ z1_ z2_ z3_ z4_ z5_ z6_ z7_ z8_ z9_ hb142 hk139 hR138
  have HP140 := Ak (And.intro h136 h137)
  clear h136 h137
  refine ⟨_, rfl, ?_⟩
  refine hK.out _ _ F152.out (fun hHeld => ?_)
  clear hHeld hK K
  refine norm_ (a' := ?_) ?_ ?_
  rotate_left
  ·show Act.put _ (some 23) _ = _
   simp only [Act.put, List.setIfInBounds_toArray, List.set_cons_zero, List.set_cons_succ, i64_w, i32_w]
   rfl
  refine one_ (i := 5) (N := some 25) #[true, true, true, true, true, true, false, false, false, false, false] rfl rfl (by kernel_rfl) (by decide) (fun K hK => ?_)
  refine goes_ Try.func60 (by kernel_rfl) rfl #[.pointer (some ⟨g, 0, none⟩), .int .i64 9] (by rfl) rfl rfl (by (try simp only [List.map_toArray, List.map_cons, List.map_nil]); first | done | rfl) ?_
  refine (pick_c (m := 0 + 999642) F153.out HB145.out (by omega)).mono ?_
  rintro e W160 ⟨r154, rfl, h155, h156, hR157, hb161, hk158⟩
  have HB163 := Ak (hb161)
  have HK164 := Ak (hk158)
  have T165 := Ak (Nat.le_trans T147.out HK164.out.1)
  have F166 := Ak (Bk.kept F148.out HK164.out N34.out)
  have F167 := Ak (Bk.kept F149.out HK164.out N35.out)
  have F168 := Ak (StI.kept F150.out HK164.out N58.out)
  have F169 := Ak (StI.kept F151.out HK164.out N101.out)
  have F170 := Ak (Bk.kept F152.out HK164.out N102.out)
  have F171 := Ak (hR157)
  clear hb161 hk158 hR157
  have HP159 := Ak (And.intro h155 h156)
  clear h155 h156
  refine ⟨_, rfl, ?_⟩
  refine hK.out _ _ F170.out (fun hHeld => ?_)
  clear hHeld hK K
  refine norm_ (a' := ?_) ?_ ?_
  rotate_left
  ·show Act.put _ (some 25) _ = _
   simp only [Act.put, List.setIfInBounds_toArray, List.set_cons_zero, List.set_cons_succ, i64_w, i32_w]
   rfl
  refine pure_ (i := 6) (N := some 26) (v := ?_) (a' := ?_) #[true, true, true, true, true, true, true, false, false, false, false] rfl rfl (by kernel_rfl) (fun _ _ _ h => h) (Or.inl ⟨by rfl, ?_⟩) ?_ ?_
  rotate_left
  ·intro w'
   go_simp
   with_reducible rfl
  rotate_left
  ·simp only [Act.put, List.setIfInBounds_toArray, List.set_cons_zero, List.set_cons_succ, i64_w, i32_w]
   rfl
  refine pure_ (i := 7) (N := some 27) (v := ?_) (a' := ?_) #[true, true, true, true, true, true, true, true, false, false, false] rfl rfl (by kernel_rfl) (fun _ _ _ h => h) (Or.inl ⟨by rfl, ?_⟩) ?_ ?_
  rotate_left
  ·intro w'
   go_simp
   with_reducible rfl
  rotate_left
  ·simp only [Act.put, List.setIfInBounds_toArray, List.set_cons_zero, List.set_cons_succ, i64_w, i32_w]
   rfl
  refine one_ (i := 8) (N := none) #[true, true, true, true, true, true, true, true, true, false, false] rfl rfl (by kernel_rfl) (by decide) (fun K hK => ?_)
  refine wp_storeRow_step (by rfl) rfl rfl (g := g2) (cs := #[.slice as51_0 t45.now.length ds51_0, .slice as51_1 t45.sure.length ds51_1, .slice as51_2 t45.last.length ds51_2, .slice as51_3 t45.slast.length ds51_3, .slice as51_4 t45.floors.length ds51_4]) rfl rfl F166.out (by kernel_rfl) rfl rfl ?_
  intro W172 hbk173 hg174
  have z0_ := C9.out
  have z1_ := C10.out
  have z2_ := HBR.out.size
  have z3_ := HGE.out
  have z4_ := C32.out
  have z5_ := C42.out
  have z6_ := C66.out
  have z7_ := C76.out
  have z8_ := T165.out
  have T175 := Ak (show g6 + 1 ≤ W160.heap.size from (by omega))
  have HB176 := Ak (below_at (below_step HBR.out HB163.out) hg174.1 (by show w.heap.size ≤ g2; omega))
  have HK177 := Ak (kept_row hg174)
  have T178 := Ak (Nat.le_trans T175.out HK177.out.1)
  have F179 := Ak (hbk173)
  have F180 := Ak (Bk.kept F167.out HK177.out (fun h_ => (by obtain ⟨h1_, h2_⟩ := h_; omega)))
  have F181 := Ak (StI.kept F168.out HK177.out (fun k_ h_ => (by obtain ⟨h1_, h2_⟩ := h_; omega)))
  have F182 := Ak (StI.kept F169.out HK177.out (fun k_ h_ => (by obtain ⟨h1_, h2_⟩ := h_; omega)))
  have F183 := Ak (Bk.kept F170.out HK177.out (fun h_ => (by obtain ⟨h1_, h2_⟩ := h_; omega)))
  have F184 := Ak (Rd.kept F171.out HK177.out (fun h_ => (by obtain ⟨h1_, h2_⟩ := h_; omega)))
  clear z0_ z1_ z2_ z3_ z4_ z5_ z6_ z7_ z8_ hbk173 hg174
  refine hK.out _ _ F183.out (fun hHeld => ?_)
  clear hHeld hK K
  refine norm_ (a' := ?_) ?_ ?_
  rotate_left
  ·show Act.put _ none _ = _
   simp only [Act.put, List.setIfInBounds_toArray, List.set_cons_zero, List.set_cons_succ, i64_w, i32_w]
   rfl
  refine pure_ (i := 9) (N := some 3) (v := ?_) (a' := ?_) #[true, true, true, true, true, true, true, true, true, true, false] rfl rfl (by kernel_rfl) (fun _ _ _ h => h) (Or.inl ⟨by rfl, ?_⟩) ?_ ?_
  rotate_left
  ·intro w'
   go_simp
   with_reducible rfl
  rotate_left
  ·simp only [Act.put, List.setIfInBounds_toArray, List.set_cons_zero, List.set_cons_succ, i64_w, i32_w]
   rfl
  refine last_ (i := 10) (N := none) #[true, true, true, true, true, true, true, true, true, true, true] rfl rfl (by kernel_rfl) (by decide) (fun K hK => ?_)
  refine wp_storeRow_step (by rfl) rfl rfl (g := g4) (cs := #[.int .i64 r135, .int .i64 (wrap64 (7 + r154))]) rfl rfl F180.out (by kernel_rfl) rfl rfl ?_
  intro W185 hbk186 hg187
  have z0_ := C9.out
  have z1_ := C10.out
  have z2_ := HBR.out.size
  have z3_ := HGE.out
  have z4_ := C32.out
  have z5_ := C42.out
  have z6_ := C66.out
  have z7_ := C76.out
  have z8_ := T178.out
  have T188 := Ak (show g6 + 1 ≤ W172.heap.size from (by omega))
  have HB189 := Ak (below_at HB176.out hg187.1 (by show w.heap.size ≤ g4; omega))
  have HK190 := Ak (kept_row hg187)
  have T191 := Ak (Nat.le_trans T188.out HK190.out.1)
  have F192 := Ak (Bk.kept F179.out HK190.out (fun h_ => (by obtain ⟨h1_, h2_⟩ := h_; omega)))
  have F193 := Ak (StI.kept F182.out HK190.out (fun k_ h_ => (by obtain ⟨h1_, h2_⟩ := h_; omega)))
  have F194 := Ak (hbk186)
  have F195 := Ak (StI.kept F181.out HK190.out (fun k_ h_ => (by obtain ⟨h1_, h2_⟩ := h_; omega)))
  have F196 := Ak (Bk.kept F183.out HK190.out (fun h_ => (by obtain ⟨h1_, h2_⟩ := h_; omega)))
  have F197 := Ak (Rd.kept F184.out HK190.out (fun h_ => (by obtain ⟨h1_, h2_⟩ := h_; omega)))
  clear z0_ z1_ z2_ z3_ z4_ z5_ z6_ z7_ z8_ hbk186 hg187
  refine hK.out _ _ ?_
  clear hK K
  refine done_ (by kernel_rfl) ?_
  go_wp2_with (fail)
  try go_wp2
  refine bodyPost_ret (results_list (rs := [.cell 2 26, .tmp 3, .cell 4 42]) rfl (by simp) (.cell g2 26 #[.slice as51_0 t45.now.length ds51_0, .slice as51_1 t45.sure.length ds51_1, .slice as51_2 t45.last.length ds51_2, .slice as51_3 t45.slast.length ds51_3, .slice as51_4 t45.floors.length ds51_4] (0, 0) _ rfl F192.out hu26 rfl (by kernel_rfl) (.tmp (.cell g4 42 #[.int .i64 r135, .int .i64 (wrap64 (7 + r154))] (0, 0) _ rfl F194.out hu42 rfl (by kernel_rfl) .nil)))) rfl ?_
  have HWI := StI.widen F193.out (lo' := w.heap.size) (hi' := W185.heap.size) (by have z0_ := C9.out; have z1_ := C10.out; have z2_ := HBR.out.size; have z3_ := HGE.out; have z4_ := C32.out; have z5_ := C42.out; have z6_ := C66.out; have z7_ := C76.out; have z8_ := T191.out; omega) (by have z0_ := C9.out; have z1_ := C10.out; have z2_ := HBR.out.size; have z3_ := HGE.out; have z4_ := C32.out; have z5_ := C42.out; have z6_ := C66.out; have z7_ := C76.out; have z8_ := T191.out; omega); first | exact ⟨_, _, _, _, _, rfl, HWI, HS52.out, HZ53.out, HB189.out⟩ | exact ⟨_, _, _, _, rfl, _, HWI, HS52.out, HZ53.out, HB189.out⟩ | trace_state
 ·have d131 : (r112 == 0) = false := beq_eq_false_iff_ne.mpr c130
  (first | rw [d131] | (simp only [i64_w, i32_w]; rw [d131]) | skip)
  have K132 := Ak c130
  clear c130
  go_wp2_with (fail)
  refine start_ (n := 7) (S := fun w' => Bk w' g6 #[.slice as51_0 t45.now.length ds51_0, .slice as51_1 t45.sure.length ds51_1, .slice as51_2 t45.last.length ds51_2, .slice as51_3 t45.slast.length ds51_3, .slice as51_4 t45.floors.length ds51_4] 26) (ds := [6]) #[false, false, false, false, false, false, false] (by kernel_rfl) rfl rfl (show Bk W118 g6 #[.slice as51_0 t45.now.length ds51_0, .slice as51_1 t45.sure.length ds51_1, .slice as51_2 t45.last.length ds51_2, .slice as51_3 t45.slast.length ds51_3, .slice as51_4 t45.floors.length ds51_4] 26 from F128.out) (fun hHeld => ?_)
  clear hHeld
  refine world_at (w := W118) (below_drew0 _) (fun W198 HB199 => ?_)
  refine take_ (i := 0) (N := some 28) (v := .agg #[.slice as51_0 t45.now.length ds51_0, .slice as51_1 t45.sure.length ds51_1, .slice as51_2 t45.last.length ds51_2, .slice as51_3 t45.slast.length ds51_3, .slice as51_4 t45.floors.length ds51_4]) (a' := ?_) #[true, false, false, false, false, false, false] rfl rfl (by kernel_rfl) (fun _ _ _ h => h) (Or.inl ⟨by rfl, ?_⟩) (Bk.below F128.out HB199.out) ?_ ?_
  ·rintro w' s0_
   exact run_load_ev rfl rfl s0_ hu26 rfl (by kernel_rfl)
  rotate_left
  ·simp only [Act.put, List.setIfInBounds_toArray, List.set_cons_zero, List.set_cons_succ, i64_w, i32_w]
   rfl
  refine pure_ (i := 1) (N := some 29) (v := ?_) (a' := ?_) #[true, true, false, false, false, false, false] rfl rfl (by kernel_rfl) (fun _ _ _ h => h) (Or.inl ⟨by rfl, ?_⟩) ?_ ?_
  rotate_left
  ·intro w'
   go_simp
   with_reducible rfl
  rotate_left
  ·simp only [Act.put, List.setIfInBounds_toArray, List.set_cons_zero, List.set_cons_succ, i64_w, i32_w]
   rfl
  refine pure_ (i := 2) (N := some 30) (v := ?_) (a' := ?_) #[true, true, true, false, false, false, false] rfl rfl (by kernel_rfl) (fun _ _ _ h => h) (Or.inl ⟨by rfl, ?_⟩) ?_ ?_
  rotate_left
  ·intro w'
   go_simp
   with_reducible rfl
  rotate_left
  ·simp only [Act.put, List.setIfInBounds_toArray, List.set_cons_zero, List.set_cons_succ, i64_w, i32_w]
   rfl
  refine one_ (i := 3) (N := some 31) #[true, true, true, true, false, false, false] rfl rfl (by kernel_rfl) (by decide) (fun K hK => ?_)
  refine goes_ Try.func65 (by kernel_rfl) rfl #[.pointer (some ⟨g, 0, none⟩)] (by rfl) rfl rfl (by (try simp only [List.map_toArray, List.map_cons, List.map_nil]); first | done | rfl) ?_
  refine (l1Some_c (m := 0 + 999641) (Rd.below F129.out HB199.out) (below_step HB121.out HB199.out)).mono ?_
  rintro e W204 ⟨lo200, hi201, rfl, hR202, hb205, hk203⟩
  have z0_ := C9.out
  have z1_ := C10.out
  have z2_ := HBR.out.size
  have z3_ := HGE.out
  have z4_ := C32.out
  have z5_ := C42.out
  have z6_ := C66.out
  have z7_ := C76.out
  have z8_ := T123.out
  have z9_ := HB199.out.size
  have T207 := Ak (show g6 + 1 ≤ W198.heap.size from (by omega))
  have HB208 := Ak (hb205)
  have HK209 := Ak (hk203)
  have T210 := Ak (Nat.le_trans T207.out HK209.out.1)
  have F211 := Ak (Bk.kept (Bk.below F124.out HB199.out) HK209.out N34.out)
  have F212 := Ak (Bk.kept (Bk.below F125.out HB199.out) HK209.out N35.out)
  have F213 := Ak (StI.kept (StI.below F126.out HB199.out) HK209.out N58.out)
  have F214 := Ak (StI.kept (StI.below F127.out HB199.out) HK209.out N101.out)
  have F215 := Ak (Bk.kept (Bk.below F128.out HB199.out) HK209.out N102.out)
  have F216 := Ak (hR202)
  clear z0_ z1_ z2_ z3_ z4_ z5_ z6_ z7_ z8_ z9_ hb205 hk203 hR202
  refine ⟨_, rfl, ?_⟩
  refine hK.out _ _ F215.out (fun hHeld => ?_)
  clear hHeld hK K
  refine norm_ (a' := ?_) ?_ ?_
  rotate_left
  ·show Act.put _ (some 31) _ = _
   simp only [Act.put, List.setIfInBounds_toArray, List.set_cons_zero, List.set_cons_succ, i64_w, i32_w]
   rfl
  refine one_ (i := 4) (N := none) #[true, true, true, true, true, false, false] rfl rfl (by kernel_rfl) (by decide) (fun K hK => ?_)
  refine wp_storeRow_step (by rfl) rfl rfl (g := g2) (cs := #[.slice as51_0 t45.now.length ds51_0, .slice as51_1 t45.sure.length ds51_1, .slice as51_2 t45.last.length ds51_2, .slice as51_3 t45.slast.length ds51_3, .slice as51_4 t45.floors.length ds51_4]) rfl rfl F211.out (by kernel_rfl) rfl rfl ?_
  intro W217 hbk218 hg219
  have z0_ := C9.out
  have z1_ := C10.out
  have z2_ := HBR.out.size
  have z3_ := HGE.out
  have z4_ := C32.out
  have z5_ := C42.out
  have z6_ := C66.out
  have z7_ := C76.out
  have z8_ := T210.out
  have T220 := Ak (show g6 + 1 ≤ W204.heap.size from (by omega))
  have HB221 := Ak (below_at (below_step HBR.out HB208.out) hg219.1 (by show w.heap.size ≤ g2; omega))
  have HK222 := Ak (kept_row hg219)
  have T223 := Ak (Nat.le_trans T220.out HK222.out.1)
  have F224 := Ak (hbk218)
  have F225 := Ak (Bk.kept F212.out HK222.out (fun h_ => (by obtain ⟨h1_, h2_⟩ := h_; omega)))
  have F226 := Ak (StI.kept F213.out HK222.out (fun k_ h_ => (by obtain ⟨h1_, h2_⟩ := h_; omega)))
  have F227 := Ak (StI.kept F214.out HK222.out (fun k_ h_ => (by obtain ⟨h1_, h2_⟩ := h_; omega)))
  have F228 := Ak (Bk.kept F215.out HK222.out (fun h_ => (by obtain ⟨h1_, h2_⟩ := h_; omega)))
  have F229 := Ak (Rd.kept F216.out HK222.out (fun h_ => (by obtain ⟨h1_, h2_⟩ := h_; omega)))
  clear z0_ z1_ z2_ z3_ z4_ z5_ z6_ z7_ z8_ hbk218 hg219
  refine hK.out _ _ F228.out (fun hHeld => ?_)
  clear hHeld hK K
  refine norm_ (a' := ?_) ?_ ?_
  rotate_left
  ·show Act.put _ none _ = _
   simp only [Act.put, List.setIfInBounds_toArray, List.set_cons_zero, List.set_cons_succ, i64_w, i32_w]
   rfl
  refine pure_ (i := 5) (N := some 3) (v := ?_) (a' := ?_) #[true, true, true, true, true, true, false] rfl rfl (by kernel_rfl) (fun _ _ _ h => h) (Or.inl ⟨by rfl, ?_⟩) ?_ ?_
  rotate_left
  ·intro w'
   go_simp
   with_reducible rfl
  rotate_left
  ·simp only [Act.put, List.setIfInBounds_toArray, List.set_cons_zero, List.set_cons_succ, i64_w, i32_w]
   rfl
  refine last_ (i := 6) (N := none) #[true, true, true, true, true, true, true] rfl rfl (by kernel_rfl) (by decide) (fun K hK => ?_)
  refine wp_storeRow_step (by rfl) rfl rfl (g := g4) (cs := #[.int .i64 lo200, .int .i64 hi201]) rfl rfl F225.out (by kernel_rfl) rfl rfl ?_
  intro W230 hbk231 hg232
  have z0_ := C9.out
  have z1_ := C10.out
  have z2_ := HBR.out.size
  have z3_ := HGE.out
  have z4_ := C32.out
  have z5_ := C42.out
  have z6_ := C66.out
  have z7_ := C76.out
  have z8_ := T223.out
  have T233 := Ak (show g6 + 1 ≤ W217.heap.size from (by omega))
  have HB234 := Ak (below_at HB221.out hg232.1 (by show w.heap.size ≤ g4; omega))
  have HK235 := Ak (kept_row hg232)
  have T236 := Ak (Nat.le_trans T233.out HK235.out.1)
  have F237 := Ak (Bk.kept F224.out HK235.out (fun h_ => (by obtain ⟨h1_, h2_⟩ := h_; omega)))
  have F238 := Ak (StI.kept F227.out HK235.out (fun k_ h_ => (by obtain ⟨h1_, h2_⟩ := h_; omega)))
  have F239 := Ak (hbk231)
  have F240 := Ak (StI.kept F226.out HK235.out (fun k_ h_ => (by obtain ⟨h1_, h2_⟩ := h_; omega)))
  have F241 := Ak (Bk.kept F228.out HK235.out (fun h_ => (by obtain ⟨h1_, h2_⟩ := h_; omega)))
  have F242 := Ak (Rd.kept F229.out HK235.out (fun h_ => (by obtain ⟨h1_, h2_⟩ := h_; omega)))
  clear z0_ z1_ z2_ z3_ z4_ z5_ z6_ z7_ z8_ hbk231 hg232
  refine hK.out _ _ ?_
  clear hK K
  refine done_ (by kernel_rfl) ?_
  go_wp2_with (fail)
  try go_wp2
  refine bodyPost_ret (results_list (rs := [.cell 2 26, .tmp 3, .cell 4 42]) rfl (by simp) (.cell g2 26 #[.slice as51_0 t45.now.length ds51_0, .slice as51_1 t45.sure.length ds51_1, .slice as51_2 t45.last.length ds51_2, .slice as51_3 t45.slast.length ds51_3, .slice as51_4 t45.floors.length ds51_4] (0, 0) _ rfl F237.out hu26 rfl (by kernel_rfl) (.tmp (.cell g4 42 #[.int .i64 lo200, .int .i64 hi201] (0, 0) _ rfl F239.out hu42 rfl (by kernel_rfl) .nil)))) rfl ?_
  have HWI := StI.widen F238.out (lo' := w.heap.size) (hi' := W230.heap.size) (by have z0_ := C9.out; have z1_ := C10.out; have z2_ := HBR.out.size; have z3_ := HGE.out; have z4_ := C32.out; have z5_ := C42.out; have z6_ := C66.out; have z7_ := C76.out; have z8_ := T236.out; omega) (by have z0_ := C9.out; have z1_ := C10.out; have z2_ := HBR.out.size; have z3_ := HGE.out; have z4_ := C32.out; have z5_ := C42.out; have z6_ := C66.out; have z7_ := C76.out; have z8_ := T236.out; omega); first | exact ⟨_, _, _, _, _, rfl, HWI, HS52.out, HZ53.out, HB234.out⟩ | exact ⟨_, _, _, _, rfl, _, HWI, HS52.out, HZ53.out, HB234.out⟩ | trace_state
end Go.Proofs.Ytmekkapacbdbeaa.P
namespace Go.Proofs.Ytmekkapacbdbeaa.P
open Go.RowKit Go.Proofs.YtmekkapacbdbeaaW.PrintWords Go.Proofs.YtmekkapacbdbeaaW.PrintLast Go.Proofs.YtmekkapacbdbeaaW.PrintMore
attribute [local go_sem] max2_int min2_int max_two min_two max_three min_three max_four min_four   
set_option linter.unusedVariables false
set_option linter.unusedSimpArgs false
end Go.Proofs.Ytmekkapacbdbeaa.P
namespace Go.Proofs.Ytmekkapacbdbeaa.P
open Go.RowKit Go.Proofs.YtmekkapacbdbeaaW.PrintWords Go.Proofs.YtmekkapacbdbeaaW.PrintLast Go.Proofs.YtmekkapacbdbeaaW.PrintMore
attribute [local go_sem] max2_int min2_int max_two min_two max_three min_three max_four min_four   
set_option linter.unusedVariables false
set_option linter.unusedSimpArgs false
end Go.Proofs.Ytmekkapacbdbeaa.P
namespace Go.Proofs.Ytmekkapacbdbeaa.P
open Go.RowKit Go.Proofs.YtmekkapacbdbeaaW.PrintWords
end Go.Proofs.Ytmekkapacbdbeaa.P
namespace Go.Proofs.Ytmekkapacbdbeaa.P
open Go.RowKit Go.Proofs.YtmekkapacbdbeaaW.PrintWords Go.Proofs.YtmekkapacbdbeaaW.PrintLast Go.Proofs.YtmekkapacbdbeaaW.PrintMore
attribute [local go_sem] max2_int min2_int max_two min_two max_three min_three max_four min_four   
set_option linter.unusedVariables false
set_option linter.unusedSimpArgs false
def spec_SpanOk.f (a0_0 : Int) (a0_1 : Int) : Option (Bool) := if a0_0 ≥ 0 then (if a0_0 < a0_1 then (some (decide (a0_1 ≤ 48))) else (some false)) else (some false)
set_option maxHeartbeats 8000000 in
set_option maxRecDepth 100000 in
theorem spec_SpanOk.calls (a0_0 : Int) (a0_1 : Int) (r : Bool) (w : World) (h : spec_SpanOk.f a0_0 a0_1 = some r) :
  Calls Try.prog 32 #[.agg #[.int .i64 a0_0, .int .i64 a0_1]] w fun e w' => e = .returned (.bool r) ∧ Below w.heap.size w w' := by
 have hu42 := Try.underlying42
 have HB := Ak (Below.refl w.heap.size w)
 have H : (if a0_0 ≥ 0 then (if a0_0 < a0_1 then (some (decide (a0_1 ≤ 48))) else (some false)) else (some false)) = some r := h
 clear h
 by_cases c2 : a0_0 ≥ 0
 ·rw [if_pos c2] at H
  have c2b0 : decide (0 ≤ a0_0) = true := decide_eq_true c2
  clear c2
  by_cases c3 : a0_0 < a0_1
  ·rw [if_pos c3] at H
   have c3b0 : decide (a0_0 < a0_1) = true := decide_eq_true c3
   clear c3
   obtain rfl := Option.some.inj H
   go_enter Try.func32, Try.ntmps32
   go_wp2_with (first | ((with_reducible refine gate_dst (N := 1) rfl ?_); refine box_event ?hg (N := 1) ?hd (cs := #[.int .i64 a0_0, .int .i64 a0_1]) (t := 42) ?hr ?_; (case hd => rfl); (case hg => rfl); (case hr => first | (go_simp; done) | (go_simp; rfl)); intro gb1108 hg w4 hbox hb; have n0_ := Ak (below_step (by repeat (first | (with_reducible first | exact HB.out | apply below_alloc | apply pw_below_drewN | apply below_drew1) | exact HB.out)) hb); have n1_ := Ak (hbox); have n2_ := Ak ((by rw [hg]; exact (below_size (by repeat (first | (with_reducible first | exact HB.out | apply below_alloc | apply pw_below_drewN | apply below_drew1) | exact HB.out))) : w.heap.size ≤ gb1108)); have n3_ := Ak ((by rw [hg]; exact (below_size (by repeat (first | (with_reducible first | exact HB.out | apply below_alloc | apply pw_below_drewN | apply below_drew1) | exact HB.out))) : w.heap.size ≤ gb1108)); clear HB; have HB := n0_; have BK1108 := n1_; have GW1108 := n2_; have GE1108 := n3_; clear n0_ n1_ n2_ n3_; clear hb hbox hg; have hcz5_0 : w4.cell? ⟨gb1108, 0, none⟩ = some (.int .i64 a0_0) := (blk_cell BK1108.out 0).trans rfl; have hcz5_1 : w4.cell? ⟨gb1108, 1, none⟩ = some (.int .i64 a0_1) := (blk_cell BK1108.out 1).trans rfl; have hfz5_0 := blk_frozen BK1108.out 0; have hfz5_1 := blk_frozen BK1108.out 1))
   go_ret
   exact ⟨by first | rfl | (simp [errW_none, errW_some] <;> rfl) | (simp [*, errW_none, errW_some] <;> rfl), by repeat (first | (with_reducible first | exact HB.out | apply below_alloc | apply pw_below_drewN | apply below_drew1 | refine below_set ?_ GE1108.out) | exact HB.out)⟩
  ·rw [if_neg c3] at H
   have c3b0 : decide (a0_0 < a0_1) = false := decide_eq_false c3
   clear c3
   obtain rfl := Option.some.inj H
   go_enter Try.func32, Try.ntmps32
   go_wp2_with (first | ((with_reducible refine gate_dst (N := 1) rfl ?_); refine box_event ?hg (N := 1) ?hd (cs := #[.int .i64 a0_0, .int .i64 a0_1]) (t := 42) ?hr ?_; (case hd => rfl); (case hg => rfl); (case hr => first | (go_simp; done) | (go_simp; rfl)); intro gb1108 hg w6 hbox hb; have n0_ := Ak (below_step (by repeat (first | (with_reducible first | exact HB.out | apply below_alloc | apply pw_below_drewN | apply below_drew1) | exact HB.out)) hb); have n1_ := Ak (hbox); have n2_ := Ak ((by rw [hg]; exact (below_size (by repeat (first | (with_reducible first | exact HB.out | apply below_alloc | apply pw_below_drewN | apply below_drew1) | exact HB.out))) : w.heap.size ≤ gb1108)); have n3_ := Ak ((by rw [hg]; exact (below_size (by repeat (first | (with_reducible first | exact HB.out | apply below_alloc | apply pw_below_drewN | apply below_drew1) | exact HB.out))) : w.heap.size ≤ gb1108)); clear HB; have HB := n0_; have BK1108 := n1_; have GW1108 := n2_; have GE1108 := n3_; clear n0_ n1_ n2_ n3_; clear hb hbox hg; have hcz7_0 : w6.cell? ⟨gb1108, 0, none⟩ = some (.int .i64 a0_0) := (blk_cell BK1108.out 0).trans rfl; have hcz7_1 : w6.cell? ⟨gb1108, 1, none⟩ = some (.int .i64 a0_1) := (blk_cell BK1108.out 1).trans rfl; have hfz7_0 := blk_frozen BK1108.out 0; have hfz7_1 := blk_frozen BK1108.out 1))
   go_ret
   exact ⟨by first | rfl | (simp [errW_none, errW_some] <;> rfl) | (simp [*, errW_none, errW_some] <;> rfl), by repeat (first | (with_reducible first | exact HB.out | apply below_alloc | apply pw_below_drewN | apply below_drew1 | refine below_set ?_ GE1108.out) | exact HB.out)⟩
 ·rw [if_neg c2] at H
  have c2b0 : decide (0 ≤ a0_0) = false := decide_eq_false c2
  clear c2
  obtain rfl := Option.some.inj H
  go_enter Try.func32, Try.ntmps32
  go_wp2_with (first | ((with_reducible refine gate_dst (N := 1) rfl ?_); refine box_event ?hg (N := 1) ?hd (cs := #[.int .i64 a0_0, .int .i64 a0_1]) (t := 42) ?hr ?_; (case hd => rfl); (case hg => rfl); (case hr => first | (go_simp; done) | (go_simp; rfl)); intro gb1108 hg w8 hbox hb; have n0_ := Ak (below_step (by repeat (first | (with_reducible first | exact HB.out | apply below_alloc | apply pw_below_drewN | apply below_drew1) | exact HB.out)) hb); have n1_ := Ak (hbox); have n2_ := Ak ((by rw [hg]; exact (below_size (by repeat (first | (with_reducible first | exact HB.out | apply below_alloc | apply pw_below_drewN | apply below_drew1) | exact HB.out))) : w.heap.size ≤ gb1108)); have n3_ := Ak ((by rw [hg]; exact (below_size (by repeat (first | (with_reducible first | exact HB.out | apply below_alloc | apply pw_below_drewN | apply below_drew1) | exact HB.out))) : w.heap.size ≤ gb1108)); clear HB; have HB := n0_; have BK1108 := n1_; have GW1108 := n2_; have GE1108 := n3_; clear n0_ n1_ n2_ n3_; clear hb hbox hg; have hcz9_0 : w8.cell? ⟨gb1108, 0, none⟩ = some (.int .i64 a0_0) := (blk_cell BK1108.out 0).trans rfl; have hcz9_1 : w8.cell? ⟨gb1108, 1, none⟩ = some (.int .i64 a0_1) := (blk_cell BK1108.out 1).trans rfl; have hfz9_0 := blk_frozen BK1108.out 0; have hfz9_1 := blk_frozen BK1108.out 1))
  go_ret
  exact ⟨by first | rfl | (simp [errW_none, errW_some] <;> rfl) | (simp [*, errW_none, errW_some] <;> rfl), by repeat (first | (with_reducible first | exact HB.out | apply below_alloc | apply pw_below_drewN | apply below_drew1 | refine below_set ?_ GE1108.out) | exact HB.out)⟩
end Go.Proofs.Ytmekkapacbdbeaa.P
namespace Go.Proofs.Ytmekkapacbdbeaa.P
open Go.RowKit Go.Proofs.YtmekkapacbdbeaaW.PrintWords Go.Proofs.YtmekkapacbdbeaaW.PrintLast Go.Proofs.YtmekkapacbdbeaaW.PrintMore
attribute [local go_sem] max2_int min2_int max_two min_two max_three min_three max_four min_four   
set_option linter.unusedVariables false
set_option linter.unusedSimpArgs false
def spec_l2Read.f (a0 : ByteArray) (a1_0 : Int) (a1_1 : Int) : Option (ByteArray) := (spec_l1Min.f a1_0 (a0.size : Int)).bind fun t1110 => ((spec_l1Min.f a1_1 (a0.size : Int)).bind fun t1111 => (if 0 ≤ t1110 then (if t1110 ≤ t1111 then (if t1111 ≤ (a0.size : Int) then (some (a0.extract (t1110 : Int).toNat (t1111 : Int).toNat)) else (none)) else (none)) else (none)))
set_option maxHeartbeats 8000000 in
set_option maxRecDepth 100000 in
theorem spec_l2Read.calls (a0 : ByteArray) (a1_0 : Int) (a1_1 : Int) (r : ByteArray) (w : World) (h : spec_l2Read.f a0 a1_0 a1_1 = some r) :
  Calls Try.prog 66 #[.string a0, .agg #[.int .i64 a1_0, .int .i64 a1_1]] w fun e w' => e = .returned (.string r) ∧ Below w.heap.size w w' := by
 have hu42 := Try.underlying42
 have HB := Ak (Below.refl w.heap.size w)
 have H : ((spec_l1Min.f a1_0 (a0.size : Int)).bind fun t1110 => ((spec_l1Min.f a1_1 (a0.size : Int)).bind fun t1111 => (if 0 ≤ t1110 then (if t1110 ≤ t1111 then (if t1111 ≤ (a0.size : Int) then (some (a0.extract (t1110 : Int).toNat (t1111 : Int).toNat)) else (none)) else (none)) else (none)))) = some r := h
 clear h
 replace H := Option.bind_eq_some_iff.mp H
 obtain ⟨t1110, A30, H⟩ := H
 replace H : ((spec_l1Min.f a1_1 (a0.size : Int)).bind fun t1111 => (if 0 ≤ t1110 then (if t1110 ≤ t1111 then (if t1111 ≤ (a0.size : Int) then (some (a0.extract (t1110 : Int).toNat (t1111 : Int).toNat)) else (none)) else (none)) else (none))) = some r := H
 have A3 := Ak A30
 clear A30
 replace H := Option.bind_eq_some_iff.mp H
 obtain ⟨t1111, A40, H⟩ := H
 replace H : (if 0 ≤ t1110 then (if t1110 ≤ t1111 then (if t1111 ≤ (a0.size : Int) then (some (a0.extract (t1110 : Int).toNat (t1111 : Int).toNat)) else (none)) else (none)) else (none)) = some r := H
 have A4 := Ak A40
 clear A40
 by_cases c5 : 0 ≤ t1110
 ·rw [if_pos c5] at H
  have c5b0 := eq_true c5
  have c5b1 : decide (0 ≤ t1110) = true := decide_eq_true c5
  clear c5
  by_cases c6 : t1110 ≤ t1111
  ·rw [if_pos c6] at H
   have c6b0 := eq_true c6
   have c6b1 : decide (t1110 ≤ t1111) = true := decide_eq_true c6
   clear c6
   by_cases c7 : t1111 ≤ (a0.size : Int)
   ·rw [if_pos c7] at H
    have c7b0 := eq_true c7
    have c7b1 : decide (t1111 ≤ (a0.size : Int)) = true := decide_eq_true c7
    clear c7
    obtain rfl := Option.some.inj H
    go_enter Try.func66, Try.ntmps66
    go_wp2_with (first | ((with_reducible refine gate_dst (N := 3) rfl ?_); refine box_event ?hg (N := 3) ?hd (cs := #[.int .i64 a1_0, .int .i64 a1_1]) (t := 42) ?hr ?_; (case hd => rfl); (case hg => rfl); (case hr => first | (go_simp; done) | (go_simp; rfl)); intro gb1109 hg w8 hbox hb; have n0_ := Ak (below_step (by repeat (first | (with_reducible first | exact HB.out | apply below_alloc | apply pw_below_drewN | apply below_drew1) | exact HB.out)) hb); have n1_ := Ak (hbox); have n2_ := Ak ((by rw [hg]; exact (below_size (by repeat (first | (with_reducible first | exact HB.out | apply below_alloc | apply pw_below_drewN | apply below_drew1) | exact HB.out))) : w.heap.size ≤ gb1109)); have n3_ := Ak ((by rw [hg]; exact (below_size (by repeat (first | (with_reducible first | exact HB.out | apply below_alloc | apply pw_below_drewN | apply below_drew1) | exact HB.out))) : w.heap.size ≤ gb1109)); clear HB; have HB := n0_; have BK1109 := n1_; have GW1109 := n2_; have GE1109 := n3_; clear n0_ n1_ n2_ n3_; clear hb hbox hg; have hcz9_0 : w8.cell? ⟨gb1109, 0, none⟩ = some (.int .i64 a1_0) := (blk_cell BK1109.out 0).trans rfl; have hcz9_1 : w8.cell? ⟨gb1109, 1, none⟩ = some (.int .i64 a1_1) := (blk_cell BK1109.out 1).trans rfl; have hfz9_0 := blk_frozen BK1109.out 0; have hfz9_1 := blk_frozen BK1109.out 1) | ((with_reducible refine gate_callee (f := 78) rfl ?_); refine goesL_ (some 10) rfl rfl Try.func78 (by kernel_rfl) rfl #[.int .i64 a1_0, .int .i64 (a0.size : Int)] rfl (by (try simp only [List.map_toArray, List.map_cons, List.map_nil]); first | done | rfl | (simp only [List.length_drop, List.length_take]; rfl)) ?_; (with_reducible refine (spec_l1Min.calls a1_0 (a0.size : Int) t1110 _ A3.out).mono ?_); rintro e w' ⟨rfl, ⟨nd, rfl⟩⟩; refine ⟨_, rfl, ?_⟩) | ((with_reducible refine gate_callee (f := 78) rfl ?_); refine goesL_ (some 17) rfl rfl Try.func78 (by kernel_rfl) rfl #[.int .i64 a1_1, .int .i64 (a0.size : Int)] rfl (by (try simp only [List.map_toArray, List.map_cons, List.map_nil]); first | done | rfl | (simp only [List.length_drop, List.length_take]; rfl)) ?_; (with_reducible refine (spec_l1Min.calls a1_1 (a0.size : Int) t1111 _ A4.out).mono ?_); rintro e w' ⟨rfl, ⟨nd, rfl⟩⟩; refine ⟨_, rfl, ?_⟩))
    go_ret
    exact ⟨by first | rfl | (simp [errW_none, errW_some] <;> rfl) | (simp [*, errW_none, errW_some] <;> rfl), by repeat (first | (with_reducible first | exact HB.out | apply below_alloc | apply pw_below_drewN | apply below_drew1 | refine below_set ?_ GE1109.out) | exact HB.out)⟩
   ·rw [if_neg c7] at H
    exact absurd H (by simp)
  ·rw [if_neg c6] at H
   exact absurd H (by simp)
 ·rw [if_neg c5] at H
  exact absurd H (by simp)
end Go.Proofs.Ytmekkapacbdbeaa.P

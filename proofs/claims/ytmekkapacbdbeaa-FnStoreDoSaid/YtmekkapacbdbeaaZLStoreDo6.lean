/- Part 6 of the proof of FnStoreDo: words, contracts of callees, plain lemmas. -/
import Derived.Test.YtmekkapacbdbeaaZLStoreDo5
namespace Go.Proofs.Ytmekkapacbdbeaa.P
open Go.RowKit Go.Proofs.YtmekkapacbdbeaaW.PrintWords Go.Proofs.YtmekkapacbdbeaaW.PrintLast Go.Proofs.YtmekkapacbdbeaaW.PrintMore
set_option linter.unusedVariables false
set_option linter.unusedSimpArgs false
set_option maxHeartbeats 8000000 in
set_option maxRecDepth 100000 in
theorem FnStoreDo_walk {w : World} {A : Option Addr} {c : Nat} {l : List Int} (hl : Kd.C (Kd.int .u8) w A l.length l) (hc : l.length ≤ c) (hb : ∀ x ∈ l, 0 ≤ x ∧ x ≤ 255) :
  Calls Try.prog 9 #[.slice A l.length c] w fun e w' => e = .returned (.bool true) ∧ Below w.heap.size w w' := by
 have HL := Ak hl
 have HLC := Ak hc
 have HLB := Ak hb
 have HT0 := Ak (Nat.le_refl w.heap.size)
 clear hl hc hb
 have hu26 := Try.underlying26
 have hu52 := Try.underlying52
 go_enter Try.func9, Try.ntmps9
 go_upto_if 16 with (fail)
 by_cases c1 : (l.length : Int) > 1048576
 ·have d2 : decide (1048576 < (l.length : Int)) = true := decide_eq_true (by omega)
  (first | rw [d2] | (simp only [i64_w, i32_w]; rw [d2]) | skip)
  have K3 := Ak c1
  clear c1
  try go_wp2
  go_ret
  exact ⟨rfl, (Below.refl _ _)⟩
 ·have d2 : decide (1048576 < (l.length : Int)) = false := decide_eq_false (by omega)
  (first | rw [d2] | (simp only [i64_w, i32_w]; rw [d2]) | skip)
  have K3 := Ak c1
  clear c1
  go_wp2_with (fail)
  refine (DrawStoreDo_c (Kd.C_below HL.out (Below.refl _ _)) HLC.out HLB.out).mono ?_
  rintro e W20 ⟨u4, t5, who12, ep13, num14, obj15, at16, data17, rfl, hd18, hr6, hs7, hz8, hb21⟩
  have HB22 := Ak hb21
  clear hb21
  have HD19 := Ak hd18
  clear hd18
  have HRs9 := Ak hr6
  have HS10 := Ak hs7
  have HZ11 := Ak hz8
  obtain ⟨as9_0, ds9_0, as9_1, ds9_1, as9_2, ds9_2, as9_3, ds9_3, as9_4, ds9_4, rfl, _⟩ := hr6.toC
  clear hr6 hs7 hz8
  go_wp2_with (first | ((with_reducible refine gate_dst (N := 3) rfl ?_); refine ev_box ?hg (N := 3) ?hd (cs := #[.slice none 0 0, .slice none 0 0, .slice none 0 0, .slice none 0 0, .slice none 0 0]) (t := 26) ?hr ?_; (case hd => rfl); (case hg => rfl); (case hr => first | (go_simp; done) | (go_simp; rfl)); intro g3 W23 HG26 BK24 HB25) | ((with_reducible refine gate_dst (N := 4) rfl ?_); refine ev_box ?hg (N := 4) ?hd (cs := #[.int .i64 0, .int .i64 0, .int .i64 0, .int .i64 0, .int .i64 0, .string ⟨#[]⟩]) (t := 52) ?hr ?_; (case hd => rfl); (case hg => rfl); (case hr => first | (go_simp; done) | (go_simp; rfl)); intro g4 W27 HG30 BK28 HB29) | ((with_reducible refine gate_store (t := 26) (p := 3) rfl ?_); refine ev_put (by rfl) rfl rfl (g := g3) rfl (cs := #[.slice as9_0 t5.now.length ds9_0, .slice as9_1 t5.sure.length ds9_1, .slice as9_2 t5.last.length ds9_2, .slice as9_3 t5.slast.length ds9_3, .slice as9_4 t5.floors.length ds9_4]) rfl (Bk.below BK24.out HB29.out) (by kernel_rfl) rfl rfl ?_; intro W31 BK32 HB33 HK34; have z0_ := HT0.out; have z1_ := HB22.out.size; have z2_ := HB25.out.size; have z3_ := HG26.out; have z4_ := BK24.out.lt; have z5_ := HB29.out.size; have z6_ := HG30.out; have z7_ := BK28.out.lt; have C35 := Ak (show w.heap.size ≤ w.heap.size ∧ w.heap.size ≤ W20.heap.size from (by omega)); have C36 := Ak (show W20.heap.size ≤ g3 ∧ g3 ≤ g3 + 1 from (by omega)); have C37 := Ak (show g3 + 1 ≤ g4 ∧ g4 ≤ g4 + 1 from (by omega)); have T38 := Ak (show g4 + 1 ≤ W27.heap.size from (by omega)); have HB39 := Ak (below_at (below_step (below_step HB22.out HB25.out) HB29.out) HB33.out (by show w.heap.size ≤ g3; omega)); have HK40 := Ak (HK34.out); have T41 := Ak (Nat.le_trans T38.out HK40.out.1); have F42 := Ak (StI.kept (StI.below HRs9.out (below_step HB25.out HB29.out)) HK40.out (fun k_ h_ => (by obtain ⟨h1_, h2_⟩ := h_; omega))); have F43 := Ak (BK32.out); have F44 := Ak (Bk.kept BK28.out HK40.out (fun h_ => (by obtain ⟨h1_, h2_⟩ := h_; omega))); clear z0_ z1_ z2_ z3_ z4_ z5_ z6_ z7_; have Z45 := Ak (And.intro C35.out (And.intro C36.out C37.out))) | ((with_reducible refine gate_store (t := 52) (p := 4) rfl ?_); refine ev_put (by rfl) rfl rfl (g := g4) rfl (cs := #[.int .i64 who12, .int .i64 ep13, .int .i64 num14, .int .i64 obj15, .int .i64 at16, .string data17]) rfl F44.out (by kernel_rfl) rfl rfl ?_; intro W46 BK47 HB48 HK49; have z0_ := Z45.out; have z1_ := T41.out; have T50 := Ak (show g4 + 1 ≤ W31.heap.size from (by omega)); have HB51 := Ak (below_at HB39.out HB48.out (by show w.heap.size ≤ g4; omega)); have HK52 := Ak (HK49.out); have T53 := Ak (Nat.le_trans T50.out HK52.out.1); have F54 := Ak (StI.kept F42.out HK52.out (fun k_ h_ => (by obtain ⟨h1_, h2_⟩ := h_; omega))); have F55 := Ak (Bk.kept F43.out HK52.out (fun h_ => (by obtain ⟨h1_, h2_⟩ := h_; omega))); have F56 := Ak (BK47.out); clear z0_ z1_) | ((with_reducible refine gate_dst (N := 23) rfl ?_); refine ev_load rfl (N := 23) rfl rfl (g := g3) rfl (cs := #[.slice as9_0 t5.now.length ds9_0, .slice as9_1 t5.sure.length ds9_1, .slice as9_2 t5.last.length ds9_2, .slice as9_3 t5.slast.length ds9_3, .slice as9_4 t5.floors.length ds9_4]) F55.out hu26 rfl (by kernel_rfl) ?_) | ((with_reducible refine gate_dst (N := 24) rfl ?_); refine ev_load rfl (N := 24) rfl rfl (g := g4) rfl (cs := #[.int .i64 who12, .int .i64 ep13, .int .i64 num14, .int .i64 obj15, .int .i64 at16, .string data17]) F56.out hu52 rfl (by kernel_rfl) ?_))
  obtain ⟨⟨t59, q61⟩, ht_⟩ : ∃ x_, storeDo t5 ⟨who12, ep13, num14, obj15, at16, data17⟩ = x_ := ⟨_, rfl⟩
  have HT60 := Ak ht_
  clear ht_
  refine (impl_StoreDo_c (StI.toC F54.out) HZ11.out HS10.out HD19.out HT60.out).mono ?_
  rintro e W63 ⟨u57, rfl, hr58, hb64⟩
  have HB65 := Ak hb64
  clear hb64
  have HRs62 := Ak hr58
  obtain ⟨as62_0, ds62_0, as62_1, ds62_1, as62_2, ds62_2, as62_3, ds62_3, as62_4, ds62_4, rfl, _⟩ := hr58.toC
  clear hr58
  go_wp2_with (first | ((with_reducible refine gate_dst (N := 5) rfl ?_); refine ev_box ?hg (N := 5) ?hd (cs := #[.slice none 0 0, .slice none 0 0, .slice none 0 0, .slice none 0 0, .slice none 0 0]) (t := 26) ?hr ?_; (case hd => rfl); (case hg => rfl); (case hr => first | (go_simp; done) | (go_simp; rfl)); intro g5 W66 HG69 BK67 HB68) | ((with_reducible refine gate_store (t := 26) (p := 5) rfl ?_); refine ev_store rfl rfl rfl (g := g5) rfl (cs := #[.slice as62_0 t59.now.length ds62_0, .slice as62_1 t59.sure.length ds62_1, .slice as62_2 t59.last.length ds62_2, .slice as62_3 t59.slast.length ds62_3, .slice as62_4 t59.floors.length ds62_4]) rfl BK67.out (by kernel_rfl) rfl rfl ?_; intro W70 BK71 HB72; have HB73 := Ak (below_new HG69.out HB68.out HB72.out); clear BK67 HB68 HB72) | ((with_reducible refine gate_dst (N := 29) rfl ?_); refine ev_load rfl (N := 29) rfl rfl (g := g3) rfl (cs := #[.slice as9_0 t5.now.length ds9_0, .slice as9_1 t5.sure.length ds9_1, .slice as9_2 t5.last.length ds9_2, .slice as9_3 t5.slast.length ds9_3, .slice as9_4 t5.floors.length ds9_4]) (Bk.below F55.out (below_step HB65.out HB73.out)) hu26 rfl (by kernel_rfl) ?_) | ((with_reducible refine gate_dst (N := 30) rfl ?_); refine ev_load rfl (N := 30) rfl rfl (g := g4) rfl (cs := #[.int .i64 who12, .int .i64 ep13, .int .i64 num14, .int .i64 obj15, .int .i64 at16, .string data17]) (Bk.below F56.out (below_step HB65.out HB73.out)) hu52 rfl (by kernel_rfl) ?_))
  refine (spec_StoreDo_c (StI.toC (StI.below F54.out (below_step HB65.out HB73.out))) HZ11.out HS10.out HD19.out HT60.out).mono ?_
  rintro e W77 ⟨u74, rfl, hr75, hb78⟩
  have HB79 := Ak hb78
  clear hb78
  have HRs76 := Ak hr75
  obtain ⟨as76_0, ds76_0, as76_1, ds76_1, as76_2, ds76_2, as76_3, ds76_3, as76_4, ds76_4, rfl, _⟩ := hr75.toC
  clear hr75
  go_wp2_with (first | ((with_reducible refine gate_dst (N := 7) rfl ?_); refine ev_box ?hg (N := 7) ?hd (cs := #[.slice none 0 0, .slice none 0 0, .slice none 0 0, .slice none 0 0, .slice none 0 0]) (t := 26) ?hr ?_; (case hd => rfl); (case hg => rfl); (case hr => first | (go_simp; done) | (go_simp; rfl)); intro g7 W80 HG83 BK81 HB82) | ((with_reducible refine gate_store (t := 26) (p := 7) rfl ?_); refine ev_store rfl rfl rfl (g := g7) rfl (cs := #[.slice as76_0 t59.now.length ds76_0, .slice as76_1 t59.sure.length ds76_1, .slice as76_2 t59.last.length ds76_2, .slice as76_3 t59.slast.length ds76_3, .slice as76_4 t59.floors.length ds76_4]) rfl BK81.out (by kernel_rfl) rfl rfl ?_; intro W84 BK85 HB86; have HB87 := Ak (below_new HG83.out HB82.out HB86.out); clear BK81 HB82 HB86))
  refine start_ (n := 16) (S := fun w' => Bk w' g5 #[.slice as62_0 t59.now.length ds62_0, .slice as62_1 t59.sure.length ds62_1, .slice as62_2 t59.last.length ds62_2, .slice as62_3 t59.slast.length ds62_3, .slice as62_4 t59.floors.length ds62_4] 26 ∧ Bk w' g7 #[.slice as76_0 t59.now.length ds76_0, .slice as76_1 t59.sure.length ds76_1, .slice as76_2 t59.last.length ds76_2, .slice as76_3 t59.slast.length ds76_3, .slice as76_4 t59.floors.length ds76_4] 26 ∧ Bk w' g3 #[.slice as9_0 t5.now.length ds9_0, .slice as9_1 t5.sure.length ds9_1, .slice as9_2 t5.last.length ds9_2, .slice as9_3 t5.slast.length ds9_3, .slice as9_4 t5.floors.length ds9_4] 26) (ds := []) #[false, false, false, false, false, false, false, false, false, false, false, false, false, false, false, false] (by kernel_rfl) rfl rfl ⟨(show Bk W84 g5 #[.slice as62_0 t59.now.length ds62_0, .slice as62_1 t59.sure.length ds62_1, .slice as62_2 t59.last.length ds62_2, .slice as62_3 t59.slast.length ds62_3, .slice as62_4 t59.floors.length ds62_4] 26 from (Bk.below BK71.out (below_step HB79.out HB87.out))), (show Bk W84 g7 #[.slice as76_0 t59.now.length ds76_0, .slice as76_1 t59.sure.length ds76_1, .slice as76_2 t59.last.length ds76_2, .slice as76_3 t59.slast.length ds76_3, .slice as76_4 t59.floors.length ds76_4] 26 from BK85.out), (show Bk W84 g3 #[.slice as9_0 t5.now.length ds9_0, .slice as9_1 t5.sure.length ds9_1, .slice as9_2 t5.last.length ds9_2, .slice as9_3 t5.slast.length ds9_3, .slice as9_4 t5.floors.length ds9_4] 26 from (Bk.below F55.out (below_step (below_step (below_step HB65.out HB73.out) HB79.out) HB87.out)))⟩ (fun hHeld => ?_)
  clear hHeld
  refine world_at (w := W84) (below_drew0 _) (fun W88 HB89 => ?_)
  refine pure_ (i := 0) (N := some 34) (v := ?_) (a' := ?_) #[T0, F0, F0, F0, F0, F0, F0, F0, F0, F0, F0, F0, F0, F0, F0, F0] rfl rfl (by kernel_rfl) (fun _ _ _ h => h) (Or.inl ⟨by rfl, ?_⟩) ?_ ?_
  rotate_left
  ·intro w'
   go_simp
   with_reducible rfl
  rotate_left
  ·simp only [Act.put, zzA, zzB, zzC, i64_w, i32_w]
   rfl
  refine pure_ (i := 1) (N := some 35) (v := ?_) (a' := ?_) #[T0, T0, F0, F0, F0, F0, F0, F0, F0, F0, F0, F0, F0, F0, F0, F0] rfl rfl (by kernel_rfl) (fun _ _ _ h => h) (Or.inl ⟨by rfl, ?_⟩) ?_ ?_
  rotate_left
  ·intro w'
   go_simp
   with_reducible rfl
  rotate_left
  ·simp only [Act.put, zzA, zzB, zzC, i64_w, i32_w]
   rfl
  refine pure_ (i := 2) (N := some 36) (v := ?_) (a' := ?_) #[T0, T0, T0, F0, F0, F0, F0, F0, F0, F0, F0, F0, F0, F0, F0, F0] rfl rfl (by kernel_rfl) (fun _ _ _ h => h) (Or.inl ⟨by rfl, ?_⟩) ?_ ?_
  rotate_left
  ·intro w'
   go_simp
   with_reducible rfl
  rotate_left
  ·simp only [Act.put, zzA, zzB, zzC, i64_w, i32_w]
   rfl
  refine pure_ (i := 3) (N := some 37) (v := ?_) (a' := ?_) #[T0, T0, T0, T0, F0, F0, F0, F0, F0, F0, F0, F0, F0, F0, F0, F0] rfl rfl (by kernel_rfl) (fun _ _ _ h => h) (Or.inl ⟨by rfl, ?_⟩) ?_ ?_
  rotate_left
  ·intro w'
   go_simp
   with_reducible rfl
  rotate_left
  ·simp only [Act.put, zzA, zzB, zzC, i64_w, i32_w]
   rfl
  refine take_ (i := 4) (N := some 38) (v := .agg #[.slice as62_0 t59.now.length ds62_0, .slice as62_1 t59.sure.length ds62_1, .slice as62_2 t59.last.length ds62_2, .slice as62_3 t59.slast.length ds62_3, .slice as62_4 t59.floors.length ds62_4]) (a' := ?_) #[T0, T0, T0, T0, T0, F0, F0, F0, F0, F0, F0, F0, F0, F0, F0, F0] rfl rfl (by kernel_rfl) (fun _ _ _ h => h) (Or.inl ⟨by rfl, ?_⟩) ⟨(Bk.below BK71.out (below_step (below_step HB79.out HB87.out) HB89.out)), (Bk.below BK85.out HB89.out), (Bk.below F55.out (below_step (below_step (below_step (below_step HB65.out HB73.out) HB79.out) HB87.out) HB89.out))⟩ ?_ ?_
  ·rintro w' ⟨s0_, s1_, s2_⟩
   exact run_load_ev rfl rfl s0_ hu26 rfl (by kernel_rfl)
  rotate_left
  ·simp only [Act.put, zzA, zzB, zzC, i64_w, i32_w]
   rfl
  refine take_ (i := 5) (N := some 39) (v := .agg #[.slice as76_0 t59.now.length ds76_0, .slice as76_1 t59.sure.length ds76_1, .slice as76_2 t59.last.length ds76_2, .slice as76_3 t59.slast.length ds76_3, .slice as76_4 t59.floors.length ds76_4]) (a' := ?_) #[T0, T0, T0, T0, T0, T0, F0, F0, F0, F0, F0, F0, F0, F0, F0, F0] rfl rfl (by kernel_rfl) (fun _ _ _ h => h) (Or.inl ⟨by rfl, ?_⟩) ⟨(Bk.below BK71.out (below_step (below_step HB79.out HB87.out) HB89.out)), (Bk.below BK85.out HB89.out), (Bk.below F55.out (below_step (below_step (below_step (below_step HB65.out HB73.out) HB79.out) HB87.out) HB89.out))⟩ ?_ ?_
  ·rintro w' ⟨s0_, s1_, s2_⟩
   exact run_load_ev rfl rfl s1_ hu26 rfl (by kernel_rfl)
  rotate_left
  ·simp only [Act.put, zzA, zzB, zzC, i64_w, i32_w]
   rfl
  have E90 := Ak ((below_step HB51.out (below_step (below_step (below_step (below_step HB65.out HB73.out) HB79.out) HB87.out) HB89.out)))
  have F91 := Ak ((Bk.below F55.out (below_step (below_step (below_step (below_step HB65.out HB73.out) HB79.out) HB87.out) HB89.out)))
  have F92 := Ak ((StI.below F54.out (below_step (below_step (below_step (below_step HB65.out HB73.out) HB79.out) HB87.out) HB89.out)))
  have F93 := Ak ((Bk.below F56.out (below_step (below_step (below_step (below_step HB65.out HB73.out) HB79.out) HB87.out) HB89.out)))
  have F94 := Ak ((Bk.below BK71.out (below_step (below_step HB79.out HB87.out) HB89.out)))
  have F95 := Ak ((StR.below HRs62.out (below_step (below_step (below_step HB73.out HB79.out) HB87.out) HB89.out)))
  have F96 := Ak ((Bk.below BK85.out HB89.out))
  have F97 := Ak ((StR.below HRs76.out (below_step HB87.out HB89.out)))
  refine one_ (i := 6) (N := some 40) #[T0, T0, T0, T0, T0, T0, T0, F0, F0, F0, F0, F0, F0, F0, F0, F0] rfl rfl (by kernel_rfl) (by decide) (fun K hK => ?_)
  refine goes_ Try.func22 (by kernel_rfl) rfl #[.agg #[.slice as62_0 t59.now.length ds62_0, .slice as62_1 t59.sure.length ds62_1, .slice as62_2 t59.last.length ds62_2, .slice as62_3 t59.slast.length ds62_3, .slice as62_4 t59.floors.length ds62_4], .agg #[.slice as76_0 t59.now.length ds76_0, .slice as76_1 t59.sure.length ds76_1, .slice as76_2 t59.last.length ds76_2, .slice as76_3 t59.slast.length ds76_3, .slice as76_4 t59.floors.length ds76_4]] (by rfl) rfl rfl (by (try simp only [List.map_toArray, List.map_cons, List.map_nil]); first | done | rfl) ?_
  refine (impl_StoreSame_w (StR.toC F95.out) (StR.toC F97.out) (stEq_self _)).mono ?_
  rintro e W98 ⟨rfl, hb99⟩
  have HB100 := Ak hb99
  clear hb99
  refine ⟨_, rfl, ?_⟩
  refine hK.out _ _ ⟨(Bk.below F94.out HB100.out), (Bk.below F96.out HB100.out), (Bk.below F91.out HB100.out)⟩ (fun hHeld => ?_)
  clear hHeld hK K
  refine norm_ (a' := ?_) ?_ ?_
  rotate_left
  ·show Act.put _ (some 40) _ = _
   simp only [Act.put, zzA, zzB, zzC, i64_w, i32_w]
   rfl
  refine pure_ (i := 7) (N := some 41) (v := ?_) (a' := ?_) #[T0, T0, T0, T0, T0, T0, T0, T0, F0, F0, F0, F0, F0, F0, F0, F0] rfl rfl (by kernel_rfl) (fun _ _ _ h => h) (Or.inl ⟨by rfl, ?_⟩) ?_ ?_
  rotate_left
  ·intro w'
   go_simp
   with_reducible rfl
  rotate_left
  ·simp only [Act.put, zzA, zzB, zzC, i64_w, i32_w]
   rfl
  refine pure_ (i := 8) (N := some 42) (v := ?_) (a' := ?_) #[T0, T0, T0, T0, T0, T0, T0, T0, T0, F0, F0, F0, F0, F0, F0, F0] rfl rfl (by kernel_rfl) (fun _ _ _ h => h) (Or.inl ⟨by rfl, ?_⟩) ?_ ?_
  rotate_left
  ·intro w'
   go_simp
   with_reducible rfl
  rotate_left
  ·simp only [Act.put, zzA, zzB, zzC, i64_w, i32_w]
   rfl
  refine pure_ (i := 9) (N := some 43) (v := ?_) (a' := ?_) #[T0, T0, T0, T0, T0, T0, T0, T0, T0, T0, F0, F0, F0, F0, F0, F0] rfl rfl (by kernel_rfl) (fun _ _ _ h => h) (Or.inl ⟨by rfl, ?_⟩) ?_ ?_
  rotate_left
  ·intro w'
   go_simp
   with_reducible rfl
  rotate_left
  ·simp only [Act.put, zzA, zzB, zzC, i64_w, i32_w]
   rfl
  refine take_ (i := 10) (N := some 44) (v := .agg #[.slice as9_0 t5.now.length ds9_0, .slice as9_1 t5.sure.length ds9_1, .slice as9_2 t5.last.length ds9_2, .slice as9_3 t5.slast.length ds9_3, .slice as9_4 t5.floors.length ds9_4]) (a' := ?_) #[T0, T0, T0, T0, T0, T0, T0, T0, T0, T0, T0, F0, F0, F0, F0, F0] rfl rfl (by kernel_rfl) (fun _ _ _ h => h) (Or.inl ⟨by rfl, ?_⟩) ⟨(Bk.below F94.out HB100.out), (Bk.below F96.out HB100.out), (Bk.below F91.out HB100.out)⟩ ?_ ?_
  ·rintro w' ⟨s0_, s1_, s2_⟩
   exact run_load_ev rfl rfl s2_ hu26 rfl (by kernel_rfl)
  rotate_left
  ·simp only [Act.put, zzA, zzB, zzC, i64_w, i32_w]
   rfl
  refine take_ (i := 12) (N := some 46) (v := .agg #[.slice as9_0 t5.now.length ds9_0, .slice as9_1 t5.sure.length ds9_1, .slice as9_2 t5.last.length ds9_2, .slice as9_3 t5.slast.length ds9_3, .slice as9_4 t5.floors.length ds9_4]) (a' := ?_) #[T0, T0, T0, T0, T0, T0, T0, T0, T0, T0, T0, F0, T0, F0, F0, F0] rfl rfl (by kernel_rfl) (fun _ _ _ h => h) (Or.inl ⟨by rfl, ?_⟩) ⟨(Bk.below F94.out HB100.out), (Bk.below F96.out HB100.out), (Bk.below F91.out HB100.out)⟩ ?_ ?_
  ·rintro w' ⟨s0_, s1_, s2_⟩
   exact run_load_ev rfl rfl s2_ hu26 rfl (by kernel_rfl)
  rotate_left
  ·simp only [Act.put, zzA, zzB, zzC, i64_w, i32_w]
   rfl
  refine one_ (i := 11) (N := some 45) #[T0, T0, T0, T0, T0, T0, T0, T0, T0, T0, T0, T0, T0, F0, F0, F0] rfl rfl (by kernel_rfl) (by decide) (fun K hK => ?_)
  refine goes_ Try.func23 (by kernel_rfl) rfl #[.agg #[.slice as9_0 t5.now.length ds9_0, .slice as9_1 t5.sure.length ds9_1, .slice as9_2 t5.last.length ds9_2, .slice as9_3 t5.slast.length ds9_3, .slice as9_4 t5.floors.length ds9_4]] (by rfl) rfl rfl (by (try simp only [List.map_toArray, List.map_cons, List.map_nil]); first | done | rfl) ?_
  obtain ⟨t101, ht_⟩ : ∃ x_, stOk t5 = x_ := ⟨_, rfl⟩
  have HT102 := Ak ht_
  clear ht_
  refine (impl_StoreOk_q (StI.toC (StI.below F92.out HB100.out)) HZ11.out HT102.out).mono ?_
  rintro e W103 ⟨rfl, hb104⟩
  have HB105 := Ak hb104
  clear hb104
  refine ⟨_, rfl, ?_⟩
  refine hK.out _ _ ⟨(Bk.below F94.out (below_step HB100.out HB105.out)), (Bk.below F96.out (below_step HB100.out HB105.out)), (Bk.below F91.out (below_step HB100.out HB105.out))⟩ (fun hHeld => ?_)
  clear hHeld hK K
  refine norm_ (a' := ?_) ?_ ?_
  rotate_left
  ·show Act.put _ (some 45) _ = _
   simp only [Act.put, zzA, zzB, zzC, i64_w, i32_w]
   rfl
  refine one_ (i := 13) (N := some 47) #[T0, T0, T0, T0, T0, T0, T0, T0, T0, T0, T0, T0, T0, T0, F0, F0] rfl rfl (by kernel_rfl) (by decide) (fun K hK => ?_)
  refine goes_ Try.func19 (by kernel_rfl) rfl #[.agg #[.slice as9_0 t5.now.length ds9_0, .slice as9_1 t5.sure.length ds9_1, .slice as9_2 t5.last.length ds9_2, .slice as9_3 t5.slast.length ds9_3, .slice as9_4 t5.floors.length ds9_4]] (by rfl) rfl rfl (by (try simp only [List.map_toArray, List.map_cons, List.map_nil]); first | done | rfl) ?_
  refine (spec_StoreOk_q (StI.toC (StI.below F92.out (below_step HB100.out HB105.out))) HZ11.out HT102.out).mono ?_
  rintro e W106 ⟨rfl, hb107⟩
  have HB108 := Ak hb107
  clear hb107
  refine ⟨_, rfl, ?_⟩
  refine hK.out _ _ ⟨(Bk.below F94.out (below_step (below_step HB100.out HB105.out) HB108.out)), (Bk.below F96.out (below_step (below_step HB100.out HB105.out) HB108.out)), (Bk.below F91.out (below_step (below_step HB100.out HB105.out) HB108.out))⟩ (fun hHeld => ?_)
  clear hHeld hK K
  refine norm_ (a' := ?_) ?_ ?_
  rotate_left
  ·show Act.put _ (some 47) _ = _
   simp only [Act.put, zzA, zzB, zzC, i64_w, i32_w]
   rfl
  refine pure_ (i := 14) (N := some 48) (v := ?_) (a' := ?_) #[T0, T0, T0, T0, T0, T0, T0, T0, T0, T0, T0, T0, T0, T0, T0, F0] rfl rfl (by kernel_rfl) (fun _ _ _ h => h) (Or.inl ⟨by rfl, ?_⟩) ?_ ?_
  rotate_left
  ·intro w'
   go_simp
   with_reducible rfl
  rotate_left
  ·simp only [Act.put, zzA, zzB, zzC, i64_w, i32_w]
   rfl
  refine pure_ (i := 15) (N := some 49) (v := ?_) (a' := ?_) #[T0, T0, T0, T0, T0, T0, T0, T0, T0, T0, T0, T0, T0, T0, T0, T0] rfl rfl (by kernel_rfl) (fun _ _ _ h => h) (Or.inl ⟨by rfl, ?_⟩) ?_ ?_
  rotate_left
  ·intro w'
   go_simp
   with_reducible rfl
  rotate_left
  ·simp only [Act.put, zzA, zzB, zzC, i64_w, i32_w]
   rfl
  refine done_ (by kernel_rfl) ?_
  go_upto_region 8 with (fail)
  by_cases c109 : t101 = true
  ·have K110 := Ak c109
   clear c109
   obtain rfl : t101 = true := K110.out
   go_upto_if 51 with (fail)
   by_cases c111 : q61 ≠ 0
   ·have d112 : (q61 != 0) = true := bne_iff_ne.mpr c111
    (first | rw [d112] | (simp only [i64_w, i32_w]; rw [d112]) | skip)
    have K113 := Ak c111
    clear c111
    go_upto_region 9 with (fail)
    go_wp2_with (first | ((with_reducible refine gate_dst (N := 52) rfl ?_); refine ev_load rfl (N := 52) rfl rfl (g := g3) rfl (cs := #[.slice as9_0 t5.now.length ds9_0, .slice as9_1 t5.sure.length ds9_1, .slice as9_2 t5.last.length ds9_2, .slice as9_3 t5.slast.length ds9_3, .slice as9_4 t5.floors.length ds9_4]) (Bk.below F91.out (below_step (below_step HB100.out HB105.out) HB108.out)) hu26 rfl (by kernel_rfl) ?_))
    refine (spec_StoreOk_q (StI.toC (StI.below F92.out (below_step (below_step HB100.out HB105.out) HB108.out))) HZ11.out HT102.out).mono ?_
    rintro e W114 ⟨rfl, hb115⟩
    have HB116 := Ak hb115
    clear hb115
    go_wp2_with (first | ((with_reducible refine gate_dst (N := 55) rfl ?_); refine ev_load_on (by rfl) (N := 55) rfl rfl (g := g5) rfl (cs := #[.slice as62_0 t59.now.length ds62_0, .slice as62_1 t59.sure.length ds62_1, .slice as62_2 t59.last.length ds62_2, .slice as62_3 t59.slast.length ds62_3, .slice as62_4 t59.floors.length ds62_4]) (Bk.below F94.out (below_step (below_step (below_step HB100.out HB105.out) HB108.out) HB116.out)) hu26 rfl (by kernel_rfl) ?_) | ((with_reducible refine gate_dst (N := 56) rfl ?_); refine ev_load_on (by rfl) (N := 56) rfl rfl (g := g3) rfl (cs := #[.slice as9_0 t5.now.length ds9_0, .slice as9_1 t5.sure.length ds9_1, .slice as9_2 t5.last.length ds9_2, .slice as9_3 t5.slast.length ds9_3, .slice as9_4 t5.floors.length ds9_4]) (Bk.below F91.out (below_step (below_step (below_step HB100.out HB105.out) HB108.out) HB116.out)) hu26 rfl (by kernel_rfl) ?_))
    refine (impl_StoreSame_w (StR.toC (StR.below F95.out (below_step (below_step (below_step HB100.out HB105.out) HB108.out) HB116.out))) (StI.toC (StI.below F92.out (below_step (below_step (below_step HB100.out HB105.out) HB108.out) HB116.out))) (stEq_of (storeDo_keep HT60.out HT102.out K113.out))).mono ?_
    rintro e W117 ⟨rfl, hb118⟩
    have HB119 := Ak hb118
    clear hb118
    try go_wp2
    go_ret
    exact ⟨rfl, (below_step E90.out (below_step (below_step (below_step (below_step HB100.out HB105.out) HB108.out) HB116.out) HB119.out))⟩
   ·have d112 : (q61 != 0) = false := bne_eq_false_iff_eq.mpr (Decidable.not_not.mp c111)
    (first | rw [d112] | (simp only [i64_w, i32_w]; rw [d112]) | skip)
    have K113 := Ak c111
    clear c111
    go_upto_region 10 with (fail)
    have HC0 := Ak (Decidable.not_not.mp K113.out)
    have HFB := Ak (fine_of HT60.out HT102.out HC0.out).1
    have HOK := Ak HT102.out
    have HOX := Ak (storeDo_ok HT60.out HT102.out)
    have HI120 := Ak (show 0 ≤ (obj15 : Int) ∧ (obj15 : Int) < ((t5.now).length : Int) from (by have l_ := stOk_lens HOK.out; have h_ := HFB.out; exact ⟨by omega, by omega⟩))
    have pHI120 := eq_true HI120.out.1
    have qHI120 := eq_true HI120.out.2
    obtain ⟨ad121, rfl⟩ := StC.now_form (StI.toC (StI.below F92.out (below_step (below_step HB100.out HB105.out) HB108.out))) HI120.out.1 HI120.out.2
    have HI122 := Ak (show 0 ≤ (who12 : Int) ∧ (who12 : Int) < ((t5.last).length : Int) from (by have l_ := stOk_lens HOK.out; have h_ := HFB.out; exact ⟨by omega, by omega⟩))
    have pHI122 := eq_true HI122.out.1
    have qHI122 := eq_true HI122.out.2
    obtain ⟨ad123, rfl⟩ := StC.last_form (StI.toC (StI.below F92.out (below_step (below_step HB100.out HB105.out) HB108.out))) HI122.out.1 HI122.out.2
    have HI124 := Ak (show 0 ≤ (obj15 : Int) ∧ (obj15 : Int) < ((t59.now).length : Int) from (by have l_ := stOk_lens HOX.out; have h_ := HFB.out; exact ⟨by omega, by omega⟩))
    have pHI124 := eq_true HI124.out.1
    have qHI124 := eq_true HI124.out.2
    obtain ⟨ad125, rfl⟩ := StC.now_form (StR.toC (StR.below F95.out (below_step (below_step HB100.out HB105.out) HB108.out))) HI124.out.1 HI124.out.2
    have HI126 := Ak (show 0 ≤ (who12 : Int) ∧ (who12 : Int) < ((t59.last).length : Int) from (by have l_ := stOk_lens HOX.out; have h_ := HFB.out; exact ⟨by omega, by omega⟩))
    have pHI126 := eq_true HI126.out.1
    have qHI126 := eq_true HI126.out.2
    obtain ⟨ad127, rfl⟩ := StC.last_form (StR.toC (StR.below F95.out (below_step (below_step HB100.out HB105.out) HB108.out))) HI126.out.1 HI126.out.2
    have hwl_ : wrap64 (rd t5.last who12 + 1) = rd t5.last who12 + 1 := w64 (by have h_ := HFB.out; omega) (by have h_ := HFB.out; omega)
    go_wp2_with (fail)
    refine start_ (n := 16) (S := fun w' => Bk w' g3 #[.slice (some ad121) t5.now.length ds9_0, .slice as9_1 t5.sure.length ds9_1, .slice (some ad123) t5.last.length ds9_2, .slice as9_3 t5.slast.length ds9_3, .slice as9_4 t5.floors.length ds9_4] 26 ∧ Bk w' g4 #[.int .i64 who12, .int .i64 ep13, .int .i64 num14, .int .i64 obj15, .int .i64 at16, .string data17] 52 ∧ w'.cell? (ad121.add (obj15).toNat) = some (.string (rdOf ByteArray.empty t5.now obj15))) (ds := []) #[false, false, false, false, false, false, false, false, false, false, false, false, false, false, false, false] (by kernel_rfl) rfl rfl ⟨(show Bk W106 g3 #[.slice (some ad121) t5.now.length ds9_0, .slice as9_1 t5.sure.length ds9_1, .slice (some ad123) t5.last.length ds9_2, .slice as9_3 t5.slast.length ds9_3, .slice as9_4 t5.floors.length ds9_4] 26 from (Bk.below F91.out (below_step (below_step HB100.out HB105.out) HB108.out))), (show Bk W106 g4 #[.int .i64 who12, .int .i64 ep13, .int .i64 num14, .int .i64 obj15, .int .i64 at16, .string data17] 52 from (Bk.below F93.out (below_step (below_step HB100.out HB105.out) HB108.out))), (show W106.cell? (ad121.add (obj15).toNat) = some (.string (rdOf ByteArray.empty t5.now obj15)) from (StC.now_read (StI.toC (StI.below F92.out (below_step (below_step HB100.out HB105.out) HB108.out))) HI120.out.1 HI120.out.2))⟩ (fun hHeld => ?_)
    clear hHeld
    refine world_at (w := W106) (below_drew0 _) (fun W128 HB129 => ?_)
    refine pure_ (i := 0) (N := some 70) (v := ?_) (a' := ?_) #[T0, F0, F0, F0, F0, F0, F0, F0, F0, F0, F0, F0, F0, F0, F0, F0] rfl rfl (by kernel_rfl) (fun _ _ _ h => h) (Or.inl ⟨by rfl, ?_⟩) ?_ ?_
    rotate_left
    ·intro w'
     go_simp
     with_reducible rfl
    rotate_left
    ·simp only [Act.put, zzA, zzB, zzC, i64_w, i32_w]
     rfl
    refine take_ (i := 1) (N := some 71) (v := .slice (some ad121) t5.now.length ds9_0) (a' := ?_) #[T0, T0, F0, F0, F0, F0, F0, F0, F0, F0, F0, F0, F0, F0, F0, F0] rfl rfl (by kernel_rfl) (fun _ _ _ h => h) (Or.inl ⟨by rfl, ?_⟩) ⟨(Bk.below F91.out (below_step (below_step (below_step HB100.out HB105.out) HB108.out) HB129.out)), (Bk.below F93.out (below_step (below_step (below_step HB100.out HB105.out) HB108.out) HB129.out)), (show W128.cell? (ad121.add (obj15).toNat) = some (.string (rdOf ByteArray.empty t5.now obj15)) from (StC.now_read (StI.toC (StI.below F92.out (below_step (below_step (below_step HB100.out HB105.out) HB108.out) HB129.out))) HI120.out.1 HI120.out.2))⟩ ?_ ?_
    ·rintro w' ⟨s0_, s1_, s2_⟩
     have hc_ : w'.cell? ⟨g3, 0, none⟩ = some (.slice (some ad121) t5.now.length ds9_0) := (Bk.cell s0_ 0).trans rfl
     first | (go_simp; done) | (go_simp; with_reducible rfl) | (go_simp; rfl)
    rotate_left
    ·simp only [Act.put, zzA, zzB, zzC, i64_w, i32_w]
     rfl
    refine pure_ (i := 2) (N := some 72) (v := ?_) (a' := ?_) #[T0, T0, T0, F0, F0, F0, F0, F0, F0, F0, F0, F0, F0, F0, F0, F0] rfl rfl (by kernel_rfl) (fun _ _ _ h => h) (Or.inl ⟨by rfl, ?_⟩) ?_ ?_
    rotate_left
    ·intro w'
     go_simp
     with_reducible rfl
    rotate_left
    ·simp only [Act.put, zzA, zzB, zzC, i64_w, i32_w]
     rfl
    refine take_ (i := 3) (N := some 73) (v := .int .i64 obj15) (a' := ?_) #[T0, T0, T0, T0, F0, F0, F0, F0, F0, F0, F0, F0, F0, F0, F0, F0] rfl rfl (by kernel_rfl) (fun _ _ _ h => h) (Or.inl ⟨by rfl, ?_⟩) ⟨(Bk.below F91.out (below_step (below_step (below_step HB100.out HB105.out) HB108.out) HB129.out)), (Bk.below F93.out (below_step (below_step (below_step HB100.out HB105.out) HB108.out) HB129.out)), (show W128.cell? (ad121.add (obj15).toNat) = some (.string (rdOf ByteArray.empty t5.now obj15)) from (StC.now_read (StI.toC (StI.below F92.out (below_step (below_step (below_step HB100.out HB105.out) HB108.out) HB129.out))) HI120.out.1 HI120.out.2))⟩ ?_ ?_
    ·rintro w' ⟨s0_, s1_, s2_⟩
     have hc_ : w'.cell? ⟨g4, 3, none⟩ = some (.int .i64 obj15) := (Bk.cell s1_ 3).trans rfl
     first | (go_simp; done) | (go_simp; with_reducible rfl) | (go_simp; rfl)
    rotate_left
    ·simp only [Act.put, zzA, zzB, zzC, i64_w, i32_w]
     rfl
    refine pure_ (i := 4) (N := some 74) (v := ?_) (a' := ?_) #[T0, T0, T0, T0, T0, F0, F0, F0, F0, F0, F0, F0, F0, F0, F0, F0] rfl rfl (by kernel_rfl) (fun _ _ _ h => h) (Or.inl ⟨by rfl, ?_⟩) ?_ ?_
    rotate_left
    ·intro w'
     go_simp
     with_reducible rfl
    rotate_left
    ·simp only [Act.put, zzA, zzB, zzC, i64_w, i32_w]
     rfl
    refine take_ (i := 5) (N := some 75) (v := .string (rdOf ByteArray.empty t5.now obj15)) (a' := ?_) #[T0, T0, T0, T0, T0, T0, F0, F0, F0, F0, F0, F0, F0, F0, F0, F0] rfl rfl (by kernel_rfl) (fun _ _ _ h => h) (Or.inl ⟨by rfl, ?_⟩) ⟨(Bk.below F91.out (below_step (below_step (below_step HB100.out HB105.out) HB108.out) HB129.out)), (Bk.below F93.out (below_step (below_step (below_step HB100.out HB105.out) HB108.out) HB129.out)), (show W128.cell? (ad121.add (obj15).toNat) = some (.string (rdOf ByteArray.empty t5.now obj15)) from (StC.now_read (StI.toC (StI.below F92.out (below_step (below_step (below_step HB100.out HB105.out) HB108.out) HB129.out))) HI120.out.1 HI120.out.2))⟩ ?_ ?_
    ·rintro w' ⟨s0_, s1_, s2_⟩
     first | (go_simp; done) | (go_simp; with_reducible rfl) | (go_simp; rfl)
    rotate_left
    ·simp only [Act.put, zzA, zzB, zzC, i64_w, i32_w]
     rfl
    refine pure_ (i := 6) (N := some 76) (v := ?_) (a' := ?_) #[T0, T0, T0, T0, T0, T0, T0, F0, F0, F0, F0, F0, F0, F0, F0, F0] rfl rfl (by kernel_rfl) (fun _ _ _ h => h) (Or.inl ⟨by rfl, ?_⟩) ?_ ?_
    rotate_left
    ·intro w'
     go_simp
     with_reducible rfl
    rotate_left
    ·simp only [Act.put, zzA, zzB, zzC, i64_w, i32_w]
     rfl
    refine take_ (i := 7) (N := some 77) (v := .int .i64 at16) (a' := ?_) #[T0, T0, T0, T0, T0, T0, T0, T0, F0, F0, F0, F0, F0, F0, F0, F0] rfl rfl (by kernel_rfl) (fun _ _ _ h => h) (Or.inl ⟨by rfl, ?_⟩) ⟨(Bk.below F91.out (below_step (below_step (below_step HB100.out HB105.out) HB108.out) HB129.out)), (Bk.below F93.out (below_step (below_step (below_step HB100.out HB105.out) HB108.out) HB129.out)), (show W128.cell? (ad121.add (obj15).toNat) = some (.string (rdOf ByteArray.empty t5.now obj15)) from (StC.now_read (StI.toC (StI.below F92.out (below_step (below_step (below_step HB100.out HB105.out) HB108.out) HB129.out))) HI120.out.1 HI120.out.2))⟩ ?_ ?_
    ·rintro w' ⟨s0_, s1_, s2_⟩
     have hc_ : w'.cell? ⟨g4, 4, none⟩ = some (.int .i64 at16) := (Bk.cell s1_ 4).trans rfl
     first | (go_simp; done) | (go_simp; with_reducible rfl) | (go_simp; rfl)
    rotate_left
    ·simp only [Act.put, zzA, zzB, zzC, i64_w, i32_w]
     rfl
    refine pure_ (i := 8) (N := some 78) (v := ?_) (a' := ?_) #[T0, T0, T0, T0, T0, T0, T0, T0, T0, F0, F0, F0, F0, F0, F0, F0] rfl rfl (by kernel_rfl) (fun _ _ _ h => h) (Or.inl ⟨by rfl, ?_⟩) ?_ ?_
    rotate_left
    ·intro w'
     go_simp
     with_reducible rfl
    rotate_left
    ·simp only [Act.put, zzA, zzB, zzC, i64_w, i32_w]
     rfl
    refine take_ (i := 9) (N := some 79) (v := .string data17) (a' := ?_) #[T0, T0, T0, T0, T0, T0, T0, T0, T0, T0, F0, F0, F0, F0, F0, F0] rfl rfl (by kernel_rfl) (fun _ _ _ h => h) (Or.inl ⟨by rfl, ?_⟩) ⟨(Bk.below F91.out (below_step (below_step (below_step HB100.out HB105.out) HB108.out) HB129.out)), (Bk.below F93.out (below_step (below_step (below_step HB100.out HB105.out) HB108.out) HB129.out)), (show W128.cell? (ad121.add (obj15).toNat) = some (.string (rdOf ByteArray.empty t5.now obj15)) from (StC.now_read (StI.toC (StI.below F92.out (below_step (below_step (below_step HB100.out HB105.out) HB108.out) HB129.out))) HI120.out.1 HI120.out.2))⟩ ?_ ?_
    ·rintro w' ⟨s0_, s1_, s2_⟩
     have hc_ : w'.cell? ⟨g4, 5, none⟩ = some (.string data17) := (Bk.cell s1_ 5).trans rfl
     first | (go_simp; done) | (go_simp; with_reducible rfl) | (go_simp; rfl)
    rotate_left
    ·simp only [Act.put, zzA, zzB, zzC, i64_w, i32_w]
     rfl
    refine one_ (i := 10) (N := some 80) #[T0, T0, T0, T0, T0, T0, T0, T0, T0, T0, T0, F0, F0, F0, F0, F0] rfl rfl (by kernel_rfl) (by decide) (fun K hK => ?_)
    refine goes_ Try.func41 (by kernel_rfl) rfl #[.string (rdOf ByteArray.empty t5.now obj15), .int .i64 at16, .string data17] (by rfl) rfl rfl (by (try simp only [List.map_toArray, List.map_cons, List.map_nil]); first | done | rfl) ?_
    obtain ⟨t130, ht_⟩ : ∃ x_, writeText ((rdOf ByteArray.empty t5.now obj15)) at16.toNat data17 = x_ := ⟨_, rfl⟩
    have HT131 := Ak ht_
    clear ht_
    refine (impl_TextWrite_c HFB.out.2.2.2.2.2.2.2.1 (fine_text HT60.out HOK.out HC0.out) HT131.out).mono ?_
    rintro e W132 ⟨rfl, hb133⟩
    have HB134 := Ak hb133
    clear hb133
    refine ⟨_, rfl, ?_⟩
    refine hK.out _ _ ⟨(Bk.below F91.out (below_step (below_step (below_step (below_step HB100.out HB105.out) HB108.out) HB129.out) HB134.out)), (Bk.below F93.out (below_step (below_step (below_step (below_step HB100.out HB105.out) HB108.out) HB129.out) HB134.out)), (show W132.cell? (ad121.add (obj15).toNat) = some (.string (rdOf ByteArray.empty t5.now obj15)) from (StC.now_read (StI.toC (StI.below F92.out (below_step (below_step (below_step (below_step HB100.out HB105.out) HB108.out) HB129.out) HB134.out))) HI120.out.1 HI120.out.2))⟩ (fun hHeld => ?_)
    clear hHeld hK K
    refine norm_ (a' := ?_) ?_ ?_
    rotate_left
    ·show Act.put _ (some 80) _ = _
     simp only [Act.put, zzA, zzB, zzC, i64_w, i32_w]
     rfl
    refine pure_ (i := 11) (N := some 69) (v := ?_) (a' := ?_) #[T0, T0, T0, T0, T0, T0, T0, T0, T0, T0, T0, T0, F0, F0, F0, F0] rfl rfl (by kernel_rfl) (fun _ _ _ h => h) (Or.inl ⟨by rfl, ?_⟩) ?_ ?_
    rotate_left
    ·intro w'
     go_simp
     with_reducible rfl
    rotate_left
    ·simp only [Act.put, zzA, zzB, zzC, i64_w, i32_w]
     rfl
    refine pure_ (i := 12) (N := some 81) (v := ?_) (a' := ?_) #[T0, T0, T0, T0, T0, T0, T0, T0, T0, T0, T0, T0, T0, F0, F0, F0] rfl rfl (by kernel_rfl) (fun _ _ _ h => h) (Or.inl ⟨by rfl, ?_⟩) ?_ ?_
    rotate_left
    ·intro w'
     go_simp
     with_reducible rfl
    rotate_left
    ·simp only [Act.put, zzA, zzB, zzC, i64_w, i32_w]
     rfl
    refine pure_ (i := 13) (N := some 82) (v := ?_) (a' := ?_) #[T0, T0, T0, T0, T0, T0, T0, T0, T0, T0, T0, T0, T0, T0, F0, F0] rfl rfl (by kernel_rfl) (fun _ _ _ h => h) (Or.inl ⟨by rfl, ?_⟩) ?_ ?_
    rotate_left
    ·intro w'
     go_simp
     with_reducible rfl
    rotate_left
    ·simp only [Act.put, zzA, zzB, zzC, i64_w, i32_w]
     rfl
    refine pure_ (i := 14) (N := some 9) (v := ?_) (a' := ?_) #[T0, T0, T0, T0, T0, T0, T0, T0, T0, T0, T0, T0, T0, T0, T0, F0] rfl rfl (by kernel_rfl) (fun _ _ _ h => h) (Or.inl ⟨by rfl, ?_⟩) ?_ ?_
    rotate_left
    ·intro w'
     go_simp
     with_reducible rfl
    rotate_left
    ·simp only [Act.put, zzA, zzB, zzC, i64_w, i32_w]
     rfl
    refine pure_ (i := 15) (N := some 10) (v := ?_) (a' := ?_) #[T0, T0, T0, T0, T0, T0, T0, T0, T0, T0, T0, T0, T0, T0, T0, T0] rfl rfl (by kernel_rfl) (fun _ _ _ h => h) (Or.inl ⟨by rfl, ?_⟩) ?_ ?_
    rotate_left
    ·intro w'
     go_simp
     with_reducible rfl
    rotate_left
    ·simp only [Act.put, zzA, zzB, zzC, i64_w, i32_w]
     rfl
    refine done_ (by kernel_rfl) ?_
    try go_wp2
    have z0_ := Z45.out
    have z1_ := T53.out
    have z2_ := HB65.out.size
    have z3_ := HB73.out.size
    have z4_ := HG69.out
    have z5_ := BK71.out.lt
    have z6_ := HB79.out.size
    have z7_ := HB87.out.size
    have z8_ := HG83.out
    have z9_ := BK85.out.lt
    have z10_ := HB89.out.size
    have z11_ := HB100.out.size
    have z12_ := HB105.out.size
    have z13_ := HB108.out.size
    have z14_ := HB129.out.size
    have z15_ := HB134.out.size
    have C136 := Ak (show g4 + 1 ≤ W46.heap.size ∧ W46.heap.size ≤ W63.heap.size from (by omega))
    have C137 := Ak (show W63.heap.size ≤ g5 ∧ g5 ≤ g5 + 1 from (by omega))
    have C138 := Ak (show g5 + 1 ≤ W70.heap.size ∧ W70.heap.size ≤ W77.heap.size from (by omega))
    have C139 := Ak (show W77.heap.size ≤ g7 ∧ g7 ≤ g7 + 1 from (by omega))
    clear z0_ z1_ z2_ z3_ z4_ z5_ z6_ z7_ z8_ z9_ z10_ z11_ z12_ z13_ z14_ z15_
    go_loopg [11] (3) (fun k_ v11_ W135 => ∃ (i_ : Int), v11_ = .int .i64 i_ ∧ Aside0 (Bk W135 g3 #[.slice (some ad121) t5.now.length ds9_0, .slice as9_1 t5.sure.length ds9_1, .slice (some ad123) t5.last.length ds9_2, .slice as9_3 t5.slast.length ds9_3, .slice as9_4 t5.floors.length ds9_4] 26) ∧ Aside0 (Bk W135 g4 #[.int .i64 who12, .int .i64 ep13, .int .i64 num14, .int .i64 obj15, .int .i64 at16, .string data17] 52) ∧ Aside0 (Bk W135 g5 #[.slice (some ad125) t59.now.length ds62_0, .slice as62_1 t59.sure.length ds62_1, .slice (some ad127) t59.last.length ds62_2, .slice as62_3 t59.slast.length ds62_3, .slice as62_4 t59.floors.length ds62_4] 26) ∧ Aside0 (StI W135 w.heap.size W20.heap.size (.agg #[.slice (some ad121) t5.now.length ds9_0, .slice as9_1 t5.sure.length ds9_1, .slice (some ad123) t5.last.length ds9_2, .slice as9_3 t5.slast.length ds9_3, .slice as9_4 t5.floors.length ds9_4]) (t5)) ∧ Aside0 (StR W135 W46.heap.size W63.heap.size (.agg #[.slice (some ad125) t59.now.length ds62_0, .slice as62_1 t59.sure.length ds62_1, .slice (some ad127) t59.last.length ds62_2, .slice as62_3 t59.slast.length ds62_3, .slice as62_4 t59.floors.length ds62_4]) (t59)) ∧ Aside0 (Below w.heap.size w W135) ∧ Aside0 (g7 + 1 ≤ W135.heap.size) ∧ Aside0 (0 ≤ i_ ∧ i_ ≤ 3 ∧ (3 - i_).toNat ≤ k_))
    case atStart => exact ⟨0, rfl, ⟨(Bk.below F91.out (below_step (below_step (below_step (below_step HB100.out HB105.out) HB108.out) HB129.out) HB134.out))⟩, ⟨(Bk.below F93.out (below_step (below_step (below_step (below_step HB100.out HB105.out) HB108.out) HB129.out) HB134.out))⟩, ⟨(Bk.below F94.out (below_step (below_step (below_step (below_step HB100.out HB105.out) HB108.out) HB129.out) HB134.out))⟩, ⟨(StI.below F92.out (below_step (below_step (below_step (below_step HB100.out HB105.out) HB108.out) HB129.out) HB134.out))⟩, ⟨(StR.below F95.out (below_step (below_step (below_step (below_step HB100.out HB105.out) HB108.out) HB129.out) HB134.out))⟩, ⟨(below_step E90.out (below_step (below_step (below_step (below_step HB100.out HB105.out) HB108.out) HB129.out) HB134.out))⟩, ⟨(by show g7 + 1 ≤ W132.heap.size; have z0_ := Z45.out; have z1_ := T53.out; have z2_ := HB65.out.size; have z3_ := HB73.out.size; have z4_ := HG69.out; have z5_ := BK71.out.lt; have z6_ := HB79.out.size; have z7_ := HB87.out.size; have z8_ := HG83.out; have z9_ := BK85.out.lt; have z10_ := HB89.out.size; have z11_ := HB100.out.size; have z12_ := HB105.out.size; have z13_ := HB108.out.size; have z14_ := HB129.out.size; have z15_ := HB134.out.size; have z16_ := C136.out; have z17_ := C137.out; have z18_ := C138.out; have z19_ := C139.out; omega)⟩, ⟨⟨by omega, by omega, by omega⟩⟩⟩
    case round =>
     obtain ⟨W135, hW_⟩ : ∃ x_, x_ = wr := ⟨_, rfl⟩
     subst hW_
     obtain ⟨i_, rfl, BK140, BK141, BK142, HR143, HR144, HB145, HZ147, HX148⟩ := hrel
     have Z149 := Ak (And.intro Z45.out (And.intro C136.out (And.intro C137.out (And.intro C138.out C139.out))))
     have HIk := HX148
     go_upto_if 87 with (first | ((with_reducible refine gate_dst (N := 85) rfl ?_); refine ev_val (by rfl) (v := .slice (some ad125) t59.now.length ds62_0) ?hr ?_; (case hr => have hc_ : W135.cell? ⟨g5, 0, none⟩ = some (.slice (some ad125) t59.now.length ds62_0) := (Bk.cell BK142.out 0).trans rfl; first | (go_simp; done) | (go_simp; rfl))))
     by_cases c150 : i_ < (t59.now.length : Int)
     ·have d151 : decide (i_ < (t59.now.length : Int)) = true := decide_eq_true c150
      (first | rw [d151] | (simp only [i64_w, i32_w]; rw [d151]) | skip)
      have K152 := Ak c150
      clear c150
      go_upto_region 14 with (fail)
      have HI3 := Ak (show 0 ≤ i_ ∧ i_ < 3 from (by have l_ := stOk_lens HOX.out; have h_ := HIk.out; have h1_ := K152.out; omega))
      have HI153 := Ak (show 0 ≤ (i_ : Int) ∧ (i_ : Int) < ((t5.now).length : Int) from (by have l_ := stOk_lens HOK.out; have h_ := HI3.out; exact ⟨by omega, by omega⟩))
      have pHI153 := eq_true HI153.out.1
      have qHI153 := eq_true HI153.out.2
      have HI154 := Ak (show 0 ≤ (i_ : Int) ∧ (i_ : Int) < ((t59.now).length : Int) from (by have l_ := stOk_lens HOX.out; have h_ := HI3.out; exact ⟨by omega, by omega⟩))
      have pHI154 := eq_true HI154.out.1
      have qHI154 := eq_true HI154.out.2
      go_upto_region 14 with (fail)
      by_cases c155 : i_ ≠ obj15
      ·have d156 : (i_ != obj15) = true := bne_iff_ne.mpr c155
       (first | rw [d156] | (simp only [i64_w, i32_w]; rw [d156]) | skip)
       have K157 := Ak c155
       clear c155
       have deq_ : (i_ == obj15) = false := beq_eq_false_iff_ne.mpr K157.out
       go_upto_region 14 with (fail)
       have hc158 : W135.cell? ⟨g4, 3, none⟩ = some (.int .i64 obj15) := (Bk.cell BK141.out 3).trans rfl
       have hc159 : W135.cell? ⟨g5, 0, none⟩ = some (.slice (some ad125) t59.now.length ds62_0) := (Bk.cell BK142.out 0).trans rfl
       have hc160 : W135.cell? (ad125.add (i_).toNat) = some (.string (rdOf ByteArray.empty t5.now i_)) := ((StC.now_read (StR.toC HR144.out) HI154.out.1 HI154.out.2).trans (congrArg (fun z_ => some (Value.string z_)) (fine_other HT60.out HOK.out HC0.out HI3.out.1 HI3.out.2 K157.out)))
       have hc161 : W135.cell? ⟨g3, 0, none⟩ = some (.slice (some ad121) t5.now.length ds9_0) := (Bk.cell BK140.out 0).trans rfl
       have hc162 : W135.cell? (ad121.add (i_).toNat) = some (.string (rdOf ByteArray.empty t5.now i_)) := (StC.now_read (StI.toC HR143.out) HI153.out.1 HI153.out.2)
       repeat (go_quiet (fail); try go_wp2)
       refine world_at (w := W135) (by first | exact below_drew0 _ | (apply pw_below_drewN; exact Below.refl _ _)) (fun W163 HB164 => ?_)
       clear hc158 hc159 hc160 hc161 hc162
       try go_wp2
       go_roundg ((3 - (i_ + 1)).toNat)
       case measure => have h_ := HIk.out; have h1_ := HI3.out; omega
       case rel => exact ⟨i_ + 1, (by rw [w64 (by have h_ := HIk.out; omega) (by have h_ := HIk.out; omega)]), ⟨(Bk.below BK140.out HB164.out)⟩, ⟨(Bk.below BK141.out HB164.out)⟩, ⟨(Bk.below BK142.out HB164.out)⟩, ⟨(StI.below HR143.out HB164.out)⟩, ⟨(StR.below HR144.out HB164.out)⟩, ⟨(below_step HB145.out HB164.out)⟩, ⟨(by show g7 + 1 ≤ W163.heap.size; have z0_ := Z149.out; have z1_ := HZ147.out; have z2_ := HB164.out.size; omega)⟩, ⟨(by have h_ := HIk.out; have h1_ := HI3.out; exact ⟨by omega, by omega, by omega⟩)⟩⟩
      ·have d156 : (i_ != obj15) = false := bne_eq_false_iff_eq.mpr (Decidable.not_not.mp c155)
       (first | rw [d156] | (simp only [i64_w, i32_w]; rw [d156]) | skip)
       have K157 := Ak c155
       clear c155
       have HEQ := Ak (Decidable.not_not.mp K157.out)
       have deq_ : (i_ == obj15) = true := beq_iff_eq.mpr HEQ.out
       go_upto_region 14 with (fail)
       have hc165 : W135.cell? ⟨g4, 3, none⟩ = some (.int .i64 obj15) := (Bk.cell BK141.out 3).trans rfl
       have hc166 : W135.cell? ⟨g5, 0, none⟩ = some (.slice (some ad125) t59.now.length ds62_0) := (Bk.cell BK142.out 0).trans rfl
       have hc167 : W135.cell? (ad125.add (i_).toNat) = some (.string t130) := ((StC.now_read (StR.toC HR144.out) HI154.out.1 HI154.out.2).trans (congrArg (fun z_ => some (Value.string z_)) ((congrArg _ HEQ.out).trans ((fine_at HT60.out HOK.out HC0.out).trans HT131.out))))
       repeat (go_quiet (fail); try go_wp2)
       refine world_at (w := W135) (by first | exact below_drew0 _ | (apply pw_below_drewN; exact Below.refl _ _)) (fun W168 HB169 => ?_)
       clear hc165 hc166 hc167
       try go_wp2
       go_roundg ((3 - (i_ + 1)).toNat)
       case measure => have h_ := HIk.out; have h1_ := HI3.out; omega
       case rel => exact ⟨i_ + 1, (by rw [w64 (by have h_ := HIk.out; omega) (by have h_ := HIk.out; omega)]), ⟨(Bk.below BK140.out HB169.out)⟩, ⟨(Bk.below BK141.out HB169.out)⟩, ⟨(Bk.below BK142.out HB169.out)⟩, ⟨(StI.below HR143.out HB169.out)⟩, ⟨(StR.below HR144.out HB169.out)⟩, ⟨(below_step HB145.out HB169.out)⟩, ⟨(by show g7 + 1 ≤ W168.heap.size; have z0_ := Z149.out; have z1_ := HZ147.out; have z2_ := HB169.out.size; omega)⟩, ⟨(by have h_ := HIk.out; have h1_ := HI3.out; exact ⟨by omega, by omega, by omega⟩)⟩⟩
     ·have d151 : decide (i_ < (t59.now.length : Int)) = false := decide_eq_false c150
      (first | rw [d151] | (simp only [i64_w, i32_w]; rw [d151]) | skip)
      have K152 := Ak c150
      clear c150
      go_wp2_with (first | ((with_reducible refine gate_dst (N := 123) rfl ?_); refine ev_load rfl (N := 123) rfl rfl (g := g5) rfl (cs := #[.slice (some ad125) t59.now.length ds62_0, .slice as62_1 t59.sure.length ds62_1, .slice (some ad127) t59.last.length ds62_2, .slice as62_3 t59.slast.length ds62_3, .slice as62_4 t59.floors.length ds62_4]) BK142.out hu26 rfl (by kernel_rfl) ?_) | ((with_reducible refine gate_dst (N := 125) rfl ?_); refine ev_val (by rfl) (v := .int .i64 obj15) ?hr ?_; (case hr => have hc_ : W135.cell? ⟨g4, 3, none⟩ = some (.int .i64 obj15) := (Bk.cell BK141.out 3).trans rfl; first | (go_simp; done) | (go_simp; rfl))) | ((with_reducible refine gate_dst (N := 127) rfl ?_); refine ev_val (by rfl) (v := .int .i64 at16) ?hr ?_; (case hr => have hc_ : W135.cell? ⟨g4, 4, none⟩ = some (.int .i64 at16) := (Bk.cell BK141.out 4).trans rfl; first | (go_simp; done) | (go_simp; rfl))) | ((with_reducible refine gate_dst (N := 129) rfl ?_); refine ev_val (by rfl) (v := .int .i64 at16) ?hr ?_; (case hr => have hc_ : W135.cell? ⟨g4, 4, none⟩ = some (.int .i64 at16) := (Bk.cell BK141.out 4).trans rfl; first | (go_simp; done) | (go_simp; rfl))) | ((with_reducible refine gate_dst (N := 131) rfl ?_); refine ev_val (by rfl) (v := .string data17) ?hr ?_; (case hr => have hc_ : W135.cell? ⟨g4, 5, none⟩ = some (.string data17) := (Bk.cell BK141.out 5).trans rfl; first | (go_simp; done) | (go_simp; rfl))))
      refine (impl_StoreRead_w (StR.toC HR144.out) (sized_do_e HT60.out HZ11.out) (fine_read HT60.out HOK.out HC0.out)).mono ?_
      rintro e W170 ⟨rfl, hb171⟩
      have HB172 := Ak hb171
      clear hb171
      go_wp2_with (fail)
      refine start_ (n := 31) (S := fun w' => Bk w' g4 #[.int .i64 who12, .int .i64 ep13, .int .i64 num14, .int .i64 obj15, .int .i64 at16, .string data17] 52 ∧ Bk w' g5 #[.slice (some ad125) t59.now.length ds62_0, .slice as62_1 t59.sure.length ds62_1, .slice (some ad127) t59.last.length ds62_2, .slice as62_3 t59.slast.length ds62_3, .slice as62_4 t59.floors.length ds62_4] 26 ∧ Bk w' g3 #[.slice (some ad121) t5.now.length ds9_0, .slice as9_1 t5.sure.length ds9_1, .slice (some ad123) t5.last.length ds9_2, .slice as9_3 t5.slast.length ds9_3, .slice as9_4 t5.floors.length ds9_4] 26 ∧ w'.cell? (ad127.add (who12).toNat) = some (.int .i64 (rd t5.last who12 + 1)) ∧ w'.cell? (ad123.add (who12).toNat) = some (.int .i64 (rd t5.last who12))) (ds := []) #[false, false, false, false, false, false, false, false, false, false, false, false, false, false, false, false, false, false, false, false, false, false, false, false, false, false, false, false, false, false, false] (by kernel_rfl) rfl rfl ⟨(show Bk W170 g4 #[.int .i64 who12, .int .i64 ep13, .int .i64 num14, .int .i64 obj15, .int .i64 at16, .string data17] 52 from (Bk.below BK141.out HB172.out)), (show Bk W170 g5 #[.slice (some ad125) t59.now.length ds62_0, .slice as62_1 t59.sure.length ds62_1, .slice (some ad127) t59.last.length ds62_2, .slice as62_3 t59.slast.length ds62_3, .slice as62_4 t59.floors.length ds62_4] 26 from (Bk.below BK142.out HB172.out)), (show Bk W170 g3 #[.slice (some ad121) t5.now.length ds9_0, .slice as9_1 t5.sure.length ds9_1, .slice (some ad123) t5.last.length ds9_2, .slice as9_3 t5.slast.length ds9_3, .slice as9_4 t5.floors.length ds9_4] 26 from (Bk.below BK140.out HB172.out)), (show W170.cell? (ad127.add (who12).toNat) = some (.int .i64 (rd t5.last who12 + 1)) from ((StC.last_read (StR.toC (StR.below HR144.out HB172.out)) HI126.out.1 HI126.out.2).trans (congrArg (fun z_ => some (Value.int .i64 z_)) (fine_last HT60.out HOK.out HC0.out)))), (show W170.cell? (ad123.add (who12).toNat) = some (.int .i64 (rd t5.last who12)) from (StC.last_read (StI.toC (StI.below HR143.out HB172.out)) HI122.out.1 HI122.out.2))⟩ (fun hHeld => ?_)
      clear hHeld
      refine world_at (w := W170) (below_drew0 _) (fun W173 HB174 => ?_)
      refine pure_ (i := 0) (N := some 138) (v := ?_) (a' := ?_) #[T0, F0, F0, F0, F0, F0, F0, F0, F0, F0, F0, F0, F0, F0, F0, F0, F0, F0, F0, F0, F0, F0, F0, F0, F0, F0, F0, F0, F0, F0, F0] rfl rfl (by kernel_rfl) (fun _ _ _ h => h) (Or.inl ⟨by rfl, ?_⟩) ?_ ?_
      rotate_left
      ·intro w'
       go_simp
       with_reducible rfl
      rotate_left
      ·simp only [Act.put, zzA, zzB, zzC, i64_w, i32_w]
       rfl
      refine pure_ (i := 1) (N := some 139) (v := ?_) (a' := ?_) #[T0, T0, F0, F0, F0, F0, F0, F0, F0, F0, F0, F0, F0, F0, F0, F0, F0, F0, F0, F0, F0, F0, F0, F0, F0, F0, F0, F0, F0, F0, F0] rfl rfl (by kernel_rfl) (fun _ _ _ h => h) (Or.inl ⟨by rfl, ?_⟩) ?_ ?_
      rotate_left
      ·intro w'
       go_simp
       with_reducible rfl
      rotate_left
      ·simp only [Act.put, zzA, zzB, zzC, i64_w, i32_w]
       rfl
      refine pure_ (i := 2) (N := some 140) (v := ?_) (a' := ?_) #[T0, T0, T0, F0, F0, F0, F0, F0, F0, F0, F0, F0, F0, F0, F0, F0, F0, F0, F0, F0, F0, F0, F0, F0, F0, F0, F0, F0, F0, F0, F0] rfl rfl (by kernel_rfl) (fun _ _ _ h => h) (Or.inl ⟨by rfl, ?_⟩) ?_ ?_
      rotate_left
      ·intro w'
       go_simp
       with_reducible rfl
      rotate_left
      ·simp only [Act.put, zzA, zzB, zzC, i64_w, i32_w]
       rfl
      refine pure_ (i := 3) (N := some 141) (v := ?_) (a' := ?_) #[T0, T0, T0, T0, F0, F0, F0, F0, F0, F0, F0, F0, F0, F0, F0, F0, F0, F0, F0, F0, F0, F0, F0, F0, F0, F0, F0, F0, F0, F0, F0] rfl rfl (by kernel_rfl) (fun _ _ _ h => h) (Or.inl ⟨by rfl, ?_⟩) ?_ ?_
      rotate_left
      ·intro w'
       go_simp
       with_reducible rfl
      rotate_left
      ·simp only [Act.put, zzA, zzB, zzC, i64_w, i32_w]
       rfl
      refine pure_ (i := 4) (N := some 142) (v := ?_) (a' := ?_) #[T0, T0, T0, T0, T0, F0, F0, F0, F0, F0, F0, F0, F0, F0, F0, F0, F0, F0, F0, F0, F0, F0, F0, F0, F0, F0, F0, F0, F0, F0, F0] rfl rfl (by kernel_rfl) (fun _ _ _ h => h) (Or.inl ⟨by rfl, ?_⟩) ?_ ?_
      rotate_left
      ·intro w'
       go_simp
       with_reducible rfl
      rotate_left
      ·simp only [Act.put, zzA, zzB, zzC, i64_w, i32_w]
       rfl
      refine pure_ (i := 5) (N := some 143) (v := ?_) (a' := ?_) #[T0, T0, T0, T0, T0, T0, F0, F0, F0, F0, F0, F0, F0, F0, F0, F0, F0, F0, F0, F0, F0, F0, F0, F0, F0, F0, F0, F0, F0, F0, F0] rfl rfl (by kernel_rfl) (fun _ _ _ h => h) (Or.inl ⟨by rfl, ?_⟩) ?_ ?_
      rotate_left
      ·intro w'
       go_simp
       with_reducible rfl
      rotate_left
      ·simp only [Act.put, zzA, zzB, zzC, i64_w, i32_w]
       rfl
      refine pure_ (i := 6) (N := some 144) (v := ?_) (a' := ?_) #[T0, T0, T0, T0, T0, T0, T0, F0, F0, F0, F0, F0, F0, F0, F0, F0, F0, F0, F0, F0, F0, F0, F0, F0, F0, F0, F0, F0, F0, F0, F0] rfl rfl (by kernel_rfl) (fun _ _ _ h => h) (Or.inl ⟨by rfl, ?_⟩) ?_ ?_
      rotate_left
      ·intro w'
       go_simp
       with_reducible rfl
      rotate_left
      ·simp only [Act.put, zzA, zzB, zzC, i64_w, i32_w]
       rfl
      refine take_ (i := 7) (N := some 145) (v := .string data17) (a' := ?_) #[T0, T0, T0, T0, T0, T0, T0, T0, F0, F0, F0, F0, F0, F0, F0, F0, F0, F0, F0, F0, F0, F0, F0, F0, F0, F0, F0, F0, F0, F0, F0] rfl rfl (by kernel_rfl) (fun _ _ _ h => h) (Or.inl ⟨by rfl, ?_⟩) ⟨(Bk.below BK141.out (below_step HB172.out HB174.out)), (Bk.below BK142.out (below_step HB172.out HB174.out)), (Bk.below BK140.out (below_step HB172.out HB174.out)), (show W173.cell? (ad127.add (who12).toNat) = some (.int .i64 (rd t5.last who12 + 1)) from ((StC.last_read (StR.toC (StR.below HR144.out (below_step HB172.out HB174.out))) HI126.out.1 HI126.out.2).trans (congrArg (fun z_ => some (Value.int .i64 z_)) (fine_last HT60.out HOK.out HC0.out)))), (show W173.cell? (ad123.add (who12).toNat) = some (.int .i64 (rd t5.last who12)) from (StC.last_read (StI.toC (StI.below HR143.out (below_step HB172.out HB174.out))) HI122.out.1 HI122.out.2))⟩ ?_ ?_
      ·rintro w' ⟨s0_, s1_, s2_, s3_, s4_⟩
       have hc_ : w'.cell? ⟨g4, 5, none⟩ = some (.string data17) := (Bk.cell s0_ 5).trans rfl
       first | (go_simp; done) | (go_simp; with_reducible rfl) | (go_simp; rfl)
      rotate_left
      ·simp only [Act.put, zzA, zzB, zzC, i64_w, i32_w]
       rfl
      refine pure_ (i := 8) (N := some 146) (v := ?_) (a' := ?_) #[T0, T0, T0, T0, T0, T0, T0, T0, T0, F0, F0, F0, F0, F0, F0, F0, F0, F0, F0, F0, F0, F0, F0, F0, F0, F0, F0, F0, F0, F0, F0] rfl rfl (by kernel_rfl) (fun _ _ _ h => h) (Or.inl ⟨by rfl, ?_⟩) ?_ ?_
      rotate_left
      ·intro w'
       go_simp
       with_reducible rfl
      rotate_left
      ·simp only [Act.put, zzA, zzB, zzC, i64_w, i32_w]
       rfl
      refine pure_ (i := 9) (N := some 147) (v := ?_) (a' := ?_) #[T0, T0, T0, T0, T0, T0, T0, T0, T0, T0, F0, F0, F0, F0, F0, F0, F0, F0, F0, F0, F0, F0, F0, F0, F0, F0, F0, F0, F0, F0, F0] rfl rfl (by kernel_rfl) (fun _ _ _ h => h) (Or.inl ⟨by rfl, ?_⟩) ?_ ?_
      rotate_left
      ·intro w'
       go_simp
       with_reducible rfl
      rotate_left
      ·simp only [Act.put, zzA, zzB, zzC, i64_w, i32_w]
       rfl
      refine pure_ (i := 10) (N := some 148) (v := ?_) (a' := ?_) #[T0, T0, T0, T0, T0, T0, T0, T0, T0, T0, T0, F0, F0, F0, F0, F0, F0, F0, F0, F0, F0, F0, F0, F0, F0, F0, F0, F0, F0, F0, F0] rfl rfl (by kernel_rfl) (fun _ _ _ h => h) (Or.inl ⟨by rfl, ?_⟩) ?_ ?_
      rotate_left
      ·intro w'
       go_simp
       with_reducible rfl
      rotate_left
      ·simp only [Act.put, zzA, zzB, zzC, i64_w, i32_w]
       rfl
      refine take_ (i := 11) (N := some 149) (v := .agg #[.slice (some ad125) t59.now.length ds62_0, .slice as62_1 t59.sure.length ds62_1, .slice (some ad127) t59.last.length ds62_2, .slice as62_3 t59.slast.length ds62_3, .slice as62_4 t59.floors.length ds62_4]) (a' := ?_) #[T0, T0, T0, T0, T0, T0, T0, T0, T0, T0, T0, T0, F0, F0, F0, F0, F0, F0, F0, F0, F0, F0, F0, F0, F0, F0, F0, F0, F0, F0, F0] rfl rfl (by kernel_rfl) (fun _ _ _ h => h) (Or.inl ⟨by rfl, ?_⟩) ⟨(Bk.below BK141.out (below_step HB172.out HB174.out)), (Bk.below BK142.out (below_step HB172.out HB174.out)), (Bk.below BK140.out (below_step HB172.out HB174.out)), (show W173.cell? (ad127.add (who12).toNat) = some (.int .i64 (rd t5.last who12 + 1)) from ((StC.last_read (StR.toC (StR.below HR144.out (below_step HB172.out HB174.out))) HI126.out.1 HI126.out.2).trans (congrArg (fun z_ => some (Value.int .i64 z_)) (fine_last HT60.out HOK.out HC0.out)))), (show W173.cell? (ad123.add (who12).toNat) = some (.int .i64 (rd t5.last who12)) from (StC.last_read (StI.toC (StI.below HR143.out (below_step HB172.out HB174.out))) HI122.out.1 HI122.out.2))⟩ ?_ ?_
      ·rintro w' ⟨s0_, s1_, s2_, s3_, s4_⟩
       exact run_load_ev rfl rfl s1_ hu26 rfl (by kernel_rfl)
      rotate_left
      ·simp only [Act.put, zzA, zzB, zzC, i64_w, i32_w]
       rfl
      refine one_ (i := 12) (N := some 150) #[T0, T0, T0, T0, T0, T0, T0, T0, T0, T0, T0, T0, T0, F0, F0, F0, F0, F0, F0, F0, F0, F0, F0, F0, F0, F0, F0, F0, F0, F0, F0] rfl rfl (by kernel_rfl) (by decide) (fun K hK => ?_)
      refine goes_ Try.func23 (by kernel_rfl) rfl #[.agg #[.slice (some ad125) t59.now.length ds62_0, .slice as62_1 t59.sure.length ds62_1, .slice (some ad127) t59.last.length ds62_2, .slice as62_3 t59.slast.length ds62_3, .slice as62_4 t59.floors.length ds62_4]] (by rfl) rfl rfl (by (try simp only [List.map_toArray, List.map_cons, List.map_nil]); first | done | rfl) ?_
      refine (impl_StoreOk_q (StR.toC (StR.below HR144.out (below_step HB172.out HB174.out))) (sized_do_e HT60.out HZ11.out) (storeDo_ok HT60.out HT102.out)).mono ?_
      rintro e W175 ⟨rfl, hb176⟩
      have HB177 := Ak hb176
      clear hb176
      refine ⟨_, rfl, ?_⟩
      refine hK.out _ _ ⟨(Bk.below BK141.out (below_step (below_step HB172.out HB174.out) HB177.out)), (Bk.below BK142.out (below_step (below_step HB172.out HB174.out) HB177.out)), (Bk.below BK140.out (below_step (below_step HB172.out HB174.out) HB177.out)), (show W175.cell? (ad127.add (who12).toNat) = some (.int .i64 (rd t5.last who12 + 1)) from ((StC.last_read (StR.toC (StR.below HR144.out (below_step (below_step HB172.out HB174.out) HB177.out))) HI126.out.1 HI126.out.2).trans (congrArg (fun z_ => some (Value.int .i64 z_)) (fine_last HT60.out HOK.out HC0.out)))), (show W175.cell? (ad123.add (who12).toNat) = some (.int .i64 (rd t5.last who12)) from (StC.last_read (StI.toC (StI.below HR143.out (below_step (below_step HB172.out HB174.out) HB177.out))) HI122.out.1 HI122.out.2))⟩ (fun hHeld => ?_)
      clear hHeld hK K
      refine norm_ (a' := ?_) ?_ ?_
      rotate_left
      ·show Act.put _ (some 150) _ = _
       simp only [Act.put, zzA, zzB, zzC, i64_w, i32_w]
       rfl
      refine pure_ (i := 13) (N := some 151) (v := ?_) (a' := ?_) #[T0, T0, T0, T0, T0, T0, T0, T0, T0, T0, T0, T0, T0, T0, F0, F0, F0, F0, F0, F0, F0, F0, F0, F0, F0, F0, F0, F0, F0, F0, F0] rfl rfl (by kernel_rfl) (fun _ _ _ h => h) (Or.inl ⟨by rfl, ?_⟩) ?_ ?_
      rotate_left
      ·intro w'
       go_simp
       with_reducible rfl
      rotate_left
      ·simp only [Act.put, zzA, zzB, zzC, i64_w, i32_w]
       rfl
      refine pure_ (i := 14) (N := some 152) (v := ?_) (a' := ?_) #[T0, T0, T0, T0, T0, T0, T0, T0, T0, T0, T0, T0, T0, T0, T0, F0, F0, F0, F0, F0, F0, F0, F0, F0, F0, F0, F0, F0, F0, F0, F0] rfl rfl (by kernel_rfl) (fun _ _ _ h => h) (Or.inl ⟨by rfl, ?_⟩) ?_ ?_
      rotate_left
      ·intro w'
       go_simp
       with_reducible rfl
      rotate_left
      ·simp only [Act.put, zzA, zzB, zzC, i64_w, i32_w]
       rfl
      refine pure_ (i := 15) (N := some 153) (v := ?_) (a' := ?_) #[T0, T0, T0, T0, T0, T0, T0, T0, T0, T0, T0, T0, T0, T0, T0, T0, F0, F0, F0, F0, F0, F0, F0, F0, F0, F0, F0, F0, F0, F0, F0] rfl rfl (by kernel_rfl) (fun _ _ _ h => h) (Or.inl ⟨by rfl, ?_⟩) ?_ ?_
      rotate_left
      ·intro w'
       go_simp
       with_reducible rfl
      rotate_left
      ·simp only [Act.put, zzA, zzB, zzC, i64_w, i32_w]
       rfl
      refine take_ (i := 16) (N := some 154) (v := .slice (some ad127) t59.last.length ds62_2) (a' := ?_) #[T0, T0, T0, T0, T0, T0, T0, T0, T0, T0, T0, T0, T0, T0, T0, T0, T0, F0, F0, F0, F0, F0, F0, F0, F0, F0, F0, F0, F0, F0, F0] rfl rfl (by kernel_rfl) (fun _ _ _ h => h) (Or.inl ⟨by rfl, ?_⟩) ⟨(Bk.below BK141.out (below_step (below_step HB172.out HB174.out) HB177.out)), (Bk.below BK142.out (below_step (below_step HB172.out HB174.out) HB177.out)), (Bk.below BK140.out (below_step (below_step HB172.out HB174.out) HB177.out)), (show W175.cell? (ad127.add (who12).toNat) = some (.int .i64 (rd t5.last who12 + 1)) from ((StC.last_read (StR.toC (StR.below HR144.out (below_step (below_step HB172.out HB174.out) HB177.out))) HI126.out.1 HI126.out.2).trans (congrArg (fun z_ => some (Value.int .i64 z_)) (fine_last HT60.out HOK.out HC0.out)))), (show W175.cell? (ad123.add (who12).toNat) = some (.int .i64 (rd t5.last who12)) from (StC.last_read (StI.toC (StI.below HR143.out (below_step (below_step HB172.out HB174.out) HB177.out))) HI122.out.1 HI122.out.2))⟩ ?_ ?_
      ·rintro w' ⟨s0_, s1_, s2_, s3_, s4_⟩
       have hc_ : w'.cell? ⟨g5, 2, none⟩ = some (.slice (some ad127) t59.last.length ds62_2) := (Bk.cell s1_ 2).trans rfl
       first | (go_simp; done) | (go_simp; with_reducible rfl) | (go_simp; rfl)
      rotate_left
      ·simp only [Act.put, zzA, zzB, zzC, i64_w, i32_w]
       rfl
      refine pure_ (i := 17) (N := some 155) (v := ?_) (a' := ?_) #[T0, T0, T0, T0, T0, T0, T0, T0, T0, T0, T0, T0, T0, T0, T0, T0, T0, T0, F0, F0, F0, F0, F0, F0, F0, F0, F0, F0, F0, F0, F0] rfl rfl (by kernel_rfl) (fun _ _ _ h => h) (Or.inl ⟨by rfl, ?_⟩) ?_ ?_
      rotate_left
      ·intro w'
       go_simp
       with_reducible rfl
      rotate_left
      ·simp only [Act.put, zzA, zzB, zzC, i64_w, i32_w]
       rfl
      refine take_ (i := 18) (N := some 156) (v := .int .i64 who12) (a' := ?_) #[T0, T0, T0, T0, T0, T0, T0, T0, T0, T0, T0, T0, T0, T0, T0, T0, T0, T0, T0, F0, F0, F0, F0, F0, F0, F0, F0, F0, F0, F0, F0] rfl rfl (by kernel_rfl) (fun _ _ _ h => h) (Or.inl ⟨by rfl, ?_⟩) ⟨(Bk.below BK141.out (below_step (below_step HB172.out HB174.out) HB177.out)), (Bk.below BK142.out (below_step (below_step HB172.out HB174.out) HB177.out)), (Bk.below BK140.out (below_step (below_step HB172.out HB174.out) HB177.out)), (show W175.cell? (ad127.add (who12).toNat) = some (.int .i64 (rd t5.last who12 + 1)) from ((StC.last_read (StR.toC (StR.below HR144.out (below_step (below_step HB172.out HB174.out) HB177.out))) HI126.out.1 HI126.out.2).trans (congrArg (fun z_ => some (Value.int .i64 z_)) (fine_last HT60.out HOK.out HC0.out)))), (show W175.cell? (ad123.add (who12).toNat) = some (.int .i64 (rd t5.last who12)) from (StC.last_read (StI.toC (StI.below HR143.out (below_step (below_step HB172.out HB174.out) HB177.out))) HI122.out.1 HI122.out.2))⟩ ?_ ?_
      ·rintro w' ⟨s0_, s1_, s2_, s3_, s4_⟩
       have hc_ : w'.cell? ⟨g4, 0, none⟩ = some (.int .i64 who12) := (Bk.cell s0_ 0).trans rfl
       first | (go_simp; done) | (go_simp; with_reducible rfl) | (go_simp; rfl)
      rotate_left
      ·simp only [Act.put, zzA, zzB, zzC, i64_w, i32_w]
       rfl
      refine pure_ (i := 19) (N := some 157) (v := ?_) (a' := ?_) #[T0, T0, T0, T0, T0, T0, T0, T0, T0, T0, T0, T0, T0, T0, T0, T0, T0, T0, T0, T0, F0, F0, F0, F0, F0, F0, F0, F0, F0, F0, F0] rfl rfl (by kernel_rfl) (fun _ _ _ h => h) (Or.inl ⟨by rfl, ?_⟩) ?_ ?_
      rotate_left
      ·intro w'
       go_simp
       with_reducible rfl
      rotate_left
      ·simp only [Act.put, zzA, zzB, zzC, i64_w, i32_w]
       rfl
      refine take_ (i := 20) (N := some 158) (v := .int .i64 (rd t5.last who12 + 1)) (a' := ?_) #[T0, T0, T0, T0, T0, T0, T0, T0, T0, T0, T0, T0, T0, T0, T0, T0, T0, T0, T0, T0, T0, F0, F0, F0, F0, F0, F0, F0, F0, F0, F0] rfl rfl (by kernel_rfl) (fun _ _ _ h => h) (Or.inl ⟨by rfl, ?_⟩) ⟨(Bk.below BK141.out (below_step (below_step HB172.out HB174.out) HB177.out)), (Bk.below BK142.out (below_step (below_step HB172.out HB174.out) HB177.out)), (Bk.below BK140.out (below_step (below_step HB172.out HB174.out) HB177.out)), (show W175.cell? (ad127.add (who12).toNat) = some (.int .i64 (rd t5.last who12 + 1)) from ((StC.last_read (StR.toC (StR.below HR144.out (below_step (below_step HB172.out HB174.out) HB177.out))) HI126.out.1 HI126.out.2).trans (congrArg (fun z_ => some (Value.int .i64 z_)) (fine_last HT60.out HOK.out HC0.out)))), (show W175.cell? (ad123.add (who12).toNat) = some (.int .i64 (rd t5.last who12)) from (StC.last_read (StI.toC (StI.below HR143.out (below_step (below_step HB172.out HB174.out) HB177.out))) HI122.out.1 HI122.out.2))⟩ ?_ ?_
      ·rintro w' ⟨s0_, s1_, s2_, s3_, s4_⟩
       first | (go_simp; done) | (go_simp; with_reducible rfl) | (go_simp; rfl)
      rotate_left
      ·simp only [Act.put, zzA, zzB, zzC, i64_w, i32_w]
       rfl
      refine pure_ (i := 21) (N := some 159) (v := ?_) (a' := ?_) #[T0, T0, T0, T0, T0, T0, T0, T0, T0, T0, T0, T0, T0, T0, T0, T0, T0, T0, T0, T0, T0, T0, F0, F0, F0, F0, F0, F0, F0, F0, F0] rfl rfl (by kernel_rfl) (fun _ _ _ h => h) (Or.inl ⟨by rfl, ?_⟩) ?_ ?_
      rotate_left
      ·intro w'
       go_simp
       with_reducible rfl
      rotate_left
      ·simp only [Act.put, zzA, zzB, zzC, i64_w, i32_w]
       rfl
      refine take_ (i := 22) (N := some 160) (v := .slice (some ad123) t5.last.length ds9_2) (a' := ?_) #[T0, T0, T0, T0, T0, T0, T0, T0, T0, T0, T0, T0, T0, T0, T0, T0, T0, T0, T0, T0, T0, T0, T0, F0, F0, F0, F0, F0, F0, F0, F0] rfl rfl (by kernel_rfl) (fun _ _ _ h => h) (Or.inl ⟨by rfl, ?_⟩) ⟨(Bk.below BK141.out (below_step (below_step HB172.out HB174.out) HB177.out)), (Bk.below BK142.out (below_step (below_step HB172.out HB174.out) HB177.out)), (Bk.below BK140.out (below_step (below_step HB172.out HB174.out) HB177.out)), (show W175.cell? (ad127.add (who12).toNat) = some (.int .i64 (rd t5.last who12 + 1)) from ((StC.last_read (StR.toC (StR.below HR144.out (below_step (below_step HB172.out HB174.out) HB177.out))) HI126.out.1 HI126.out.2).trans (congrArg (fun z_ => some (Value.int .i64 z_)) (fine_last HT60.out HOK.out HC0.out)))), (show W175.cell? (ad123.add (who12).toNat) = some (.int .i64 (rd t5.last who12)) from (StC.last_read (StI.toC (StI.below HR143.out (below_step (below_step HB172.out HB174.out) HB177.out))) HI122.out.1 HI122.out.2))⟩ ?_ ?_
      ·rintro w' ⟨s0_, s1_, s2_, s3_, s4_⟩
       have hc_ : w'.cell? ⟨g3, 2, none⟩ = some (.slice (some ad123) t5.last.length ds9_2) := (Bk.cell s2_ 2).trans rfl
       first | (go_simp; done) | (go_simp; with_reducible rfl) | (go_simp; rfl)
      rotate_left
      ·simp only [Act.put, zzA, zzB, zzC, i64_w, i32_w]
       rfl
      refine pure_ (i := 23) (N := some 161) (v := ?_) (a' := ?_) #[T0, T0, T0, T0, T0, T0, T0, T0, T0, T0, T0, T0, T0, T0, T0, T0, T0, T0, T0, T0, T0, T0, T0, T0, F0, F0, F0, F0, F0, F0, F0] rfl rfl (by kernel_rfl) (fun _ _ _ h => h) (Or.inl ⟨by rfl, ?_⟩) ?_ ?_
      rotate_left
      ·intro w'
       go_simp
       with_reducible rfl
      rotate_left
      ·simp only [Act.put, zzA, zzB, zzC, i64_w, i32_w]
       rfl
      refine take_ (i := 24) (N := some 162) (v := .int .i64 who12) (a' := ?_) #[T0, T0, T0, T0, T0, T0, T0, T0, T0, T0, T0, T0, T0, T0, T0, T0, T0, T0, T0, T0, T0, T0, T0, T0, T0, F0, F0, F0, F0, F0, F0] rfl rfl (by kernel_rfl) (fun _ _ _ h => h) (Or.inl ⟨by rfl, ?_⟩) ⟨(Bk.below BK141.out (below_step (below_step HB172.out HB174.out) HB177.out)), (Bk.below BK142.out (below_step (below_step HB172.out HB174.out) HB177.out)), (Bk.below BK140.out (below_step (below_step HB172.out HB174.out) HB177.out)), (show W175.cell? (ad127.add (who12).toNat) = some (.int .i64 (rd t5.last who12 + 1)) from ((StC.last_read (StR.toC (StR.below HR144.out (below_step (below_step HB172.out HB174.out) HB177.out))) HI126.out.1 HI126.out.2).trans (congrArg (fun z_ => some (Value.int .i64 z_)) (fine_last HT60.out HOK.out HC0.out)))), (show W175.cell? (ad123.add (who12).toNat) = some (.int .i64 (rd t5.last who12)) from (StC.last_read (StI.toC (StI.below HR143.out (below_step (below_step HB172.out HB174.out) HB177.out))) HI122.out.1 HI122.out.2))⟩ ?_ ?_
      ·rintro w' ⟨s0_, s1_, s2_, s3_, s4_⟩
       have hc_ : w'.cell? ⟨g4, 0, none⟩ = some (.int .i64 who12) := (Bk.cell s0_ 0).trans rfl
       first | (go_simp; done) | (go_simp; with_reducible rfl) | (go_simp; rfl)
      rotate_left
      ·simp only [Act.put, zzA, zzB, zzC, i64_w, i32_w]
       rfl
      refine pure_ (i := 25) (N := some 163) (v := ?_) (a' := ?_) #[T0, T0, T0, T0, T0, T0, T0, T0, T0, T0, T0, T0, T0, T0, T0, T0, T0, T0, T0, T0, T0, T0, T0, T0, T0, T0, F0, F0, F0, F0, F0] rfl rfl (by kernel_rfl) (fun _ _ _ h => h) (Or.inl ⟨by rfl, ?_⟩) ?_ ?_
      rotate_left
      ·intro w'
       go_simp
       with_reducible rfl
      rotate_left
      ·simp only [Act.put, zzA, zzB, zzC, i64_w, i32_w]
       rfl
      refine take_ (i := 26) (N := some 164) (v := .int .i64 (rd t5.last who12)) (a' := ?_) #[T0, T0, T0, T0, T0, T0, T0, T0, T0, T0, T0, T0, T0, T0, T0, T0, T0, T0, T0, T0, T0, T0, T0, T0, T0, T0, T0, F0, F0, F0, F0] rfl rfl (by kernel_rfl) (fun _ _ _ h => h) (Or.inl ⟨by rfl, ?_⟩) ⟨(Bk.below BK141.out (below_step (below_step HB172.out HB174.out) HB177.out)), (Bk.below BK142.out (below_step (below_step HB172.out HB174.out) HB177.out)), (Bk.below BK140.out (below_step (below_step HB172.out HB174.out) HB177.out)), (show W175.cell? (ad127.add (who12).toNat) = some (.int .i64 (rd t5.last who12 + 1)) from ((StC.last_read (StR.toC (StR.below HR144.out (below_step (below_step HB172.out HB174.out) HB177.out))) HI126.out.1 HI126.out.2).trans (congrArg (fun z_ => some (Value.int .i64 z_)) (fine_last HT60.out HOK.out HC0.out)))), (show W175.cell? (ad123.add (who12).toNat) = some (.int .i64 (rd t5.last who12)) from (StC.last_read (StI.toC (StI.below HR143.out (below_step (below_step HB172.out HB174.out) HB177.out))) HI122.out.1 HI122.out.2))⟩ ?_ ?_
      ·rintro w' ⟨s0_, s1_, s2_, s3_, s4_⟩
       first | (go_simp; done) | (go_simp; with_reducible rfl) | (go_simp; rfl)
      rotate_left
      ·simp only [Act.put, zzA, zzB, zzC, i64_w, i32_w]
       rfl
      refine pure_ (i := 27) (N := some 165) (v := ?_) (a' := ?_) #[T0, T0, T0, T0, T0, T0, T0, T0, T0, T0, T0, T0, T0, T0, T0, T0, T0, T0, T0, T0, T0, T0, T0, T0, T0, T0, T0, T0, F0, F0, F0] rfl rfl (by kernel_rfl) (fun _ _ _ h => h) (Or.inl ⟨by rfl, ?_⟩) ?_ ?_
      rotate_left
      ·intro w'
       go_simp
       with_reducible rfl
      rotate_left
      ·simp only [Act.put, zzA, zzB, zzC, i64_w, i32_w]
       rfl
      refine pure_ (i := 28) (N := some 166) (v := ?_) (a' := ?_) #[T0, T0, T0, T0, T0, T0, T0, T0, T0, T0, T0, T0, T0, T0, T0, T0, T0, T0, T0, T0, T0, T0, T0, T0, T0, T0, T0, T0, T0, F0, F0] rfl rfl (by kernel_rfl) (fun _ _ _ h => h) (Or.inl ⟨by rfl, ?_⟩) ?_ ?_
      rotate_left
      ·intro w'
       go_simp
       with_reducible rfl
      rotate_left
      ·simp only [Act.put, zzA, zzB, zzC, i64_w, i32_w]
       rfl
      refine pure_ (i := 29) (N := some 167) (v := ?_) (a' := ?_) #[T0, T0, T0, T0, T0, T0, T0, T0, T0, T0, T0, T0, T0, T0, T0, T0, T0, T0, T0, T0, T0, T0, T0, T0, T0, T0, T0, T0, T0, T0, F0] rfl rfl (by kernel_rfl) (fun _ _ _ h => h) (Or.inl ⟨by rfl, ?_⟩) ?_ ?_
      rotate_left
      ·intro w'
       go_simp
       with_reducible rfl
      rotate_left
      ·simp only [Act.put, zzA, zzB, zzC, i64_w, i32_w]
       rfl
      refine pure_ (i := 30) (N := some 2) (v := ?_) (a' := ?_) #[T0, T0, T0, T0, T0, T0, T0, T0, T0, T0, T0, T0, T0, T0, T0, T0, T0, T0, T0, T0, T0, T0, T0, T0, T0, T0, T0, T0, T0, T0, T0] rfl rfl (by kernel_rfl) (fun _ _ _ h => h) (Or.inl ⟨by rfl, ?_⟩) ?_ ?_
      rotate_left
      ·intro w'
       go_simp
       with_reducible rfl
      rotate_left
      ·simp only [Act.put, zzA, zzB, zzC, i64_w, i32_w]
       rfl
      refine done_ (by kernel_rfl) ?_
      try go_wp2
      go_ret
      exact ⟨rfl, (below_step HB145.out (below_step (below_step HB172.out HB174.out) HB177.out))⟩
  ·have K110 := Ak c109
   clear c109
   obtain rfl : t101 = false := by simpa using K110.out
   have HCB := Ak (storeDo_bad HT60.out HT102.out)
   have dcb_ : (q61 != 0) = true := by rw [HCB.out.2]; rfl
   go_upto_region 9 with (fail)
   go_wp2_with (first | ((with_reducible refine gate_dst (N := 52) rfl ?_); refine ev_load rfl (N := 52) rfl rfl (g := g3) rfl (cs := #[.slice as9_0 t5.now.length ds9_0, .slice as9_1 t5.sure.length ds9_1, .slice as9_2 t5.last.length ds9_2, .slice as9_3 t5.slast.length ds9_3, .slice as9_4 t5.floors.length ds9_4]) (Bk.below F91.out (below_step (below_step HB100.out HB105.out) HB108.out)) hu26 rfl (by kernel_rfl) ?_))
   refine (spec_StoreOk_q (StI.toC (StI.below F92.out (below_step (below_step HB100.out HB105.out) HB108.out))) HZ11.out HT102.out).mono ?_
   rintro e W178 ⟨rfl, hb179⟩
   have HB180 := Ak hb179
   clear hb179
   go_wp2_with (first | ((with_reducible refine gate_dst (N := 60) rfl ?_); refine ev_load_on (by rfl) (N := 60) rfl rfl (g := g3) rfl (cs := #[.slice as9_0 t5.now.length ds9_0, .slice as9_1 t5.sure.length ds9_1, .slice as9_2 t5.last.length ds9_2, .slice as9_3 t5.slast.length ds9_3, .slice as9_4 t5.floors.length ds9_4]) (Bk.below F91.out (below_step (below_step (below_step HB100.out HB105.out) HB108.out) HB180.out)) hu26 rfl (by kernel_rfl) ?_))
   refine (spec_StoreOk_q (StI.toC (StI.below F92.out (below_step (below_step (below_step HB100.out HB105.out) HB108.out) HB180.out))) HZ11.out HT102.out).mono ?_
   rintro e W181 ⟨rfl, hb182⟩
   have HB183 := Ak hb182
   clear hb182
   go_wp2_with (first | ((with_reducible refine gate_dst (N := 64) rfl ?_); refine ev_load_on (by rfl) (N := 64) rfl rfl (g := g5) rfl (cs := #[.slice as62_0 t59.now.length ds62_0, .slice as62_1 t59.sure.length ds62_1, .slice as62_2 t59.last.length ds62_2, .slice as62_3 t59.slast.length ds62_3, .slice as62_4 t59.floors.length ds62_4]) (Bk.below F94.out (below_step (below_step (below_step (below_step HB100.out HB105.out) HB108.out) HB180.out) HB183.out)) hu26 rfl (by kernel_rfl) ?_))
   have E184 := Ak ((below_step E90.out (below_step (below_step (below_step (below_step HB100.out HB105.out) HB108.out) HB180.out) HB183.out)))
   have F185 := Ak ((Bk.below F91.out (below_step (below_step (below_step (below_step HB100.out HB105.out) HB108.out) HB180.out) HB183.out)))
   have F186 := Ak ((StI.below F92.out (below_step (below_step (below_step (below_step HB100.out HB105.out) HB108.out) HB180.out) HB183.out)))
   have F187 := Ak ((Bk.below F93.out (below_step (below_step (below_step (below_step HB100.out HB105.out) HB108.out) HB180.out) HB183.out)))
   have F188 := Ak ((Bk.below F94.out (below_step (below_step (below_step (below_step HB100.out HB105.out) HB108.out) HB180.out) HB183.out)))
   have F189 := Ak ((StR.below F95.out (below_step (below_step (below_step (below_step HB100.out HB105.out) HB108.out) HB180.out) HB183.out)))
   refine (impl_StoreSame_w (StR.toC F189.out) StC_none (stEq_of HCB.out.1)).mono ?_
   rintro e W190 ⟨rfl, hb191⟩
   have HB192 := Ak hb191
   clear hb191
   try go_wp2
   go_ret
   exact ⟨rfl, (below_step E184.out HB192.out)⟩
end Go.Proofs.Ytmekkapacbdbeaa.P

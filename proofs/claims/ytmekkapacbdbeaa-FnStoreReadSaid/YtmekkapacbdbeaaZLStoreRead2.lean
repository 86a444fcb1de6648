/- Part 2 of the proof of FnStoreRead: words, contracts of callees, plain lemmas. -/
import Derived.Test.YtmekkapacbdbeaaZLStoreRead1
namespace Go.Proofs.Ytmekkapacbdbeaa.P
open Go.RowKit Go.Proofs.YtmekkapacbdbeaaW.PrintWords Go.Proofs.YtmekkapacbdbeaaW.PrintLast Go.Proofs.YtmekkapacbdbeaaW.PrintMore
attribute [local go_sem] max2_int min2_int max_two min_two max_three min_three max_four min_four   
set_option linter.unusedVariables false
set_option linter.unusedSimpArgs false
def spec_l1Some.f (k : Nat) (s0_0 : List Int) (s0_1 : Int) : Option (Int × Int × Int) := (spec_l1Span.f k s0_0 s0_1).bind fun bt1050 => ((spec_l10Rd_pick.f k s0_0 bt1050.2.2 48).bind fun bt1054 => (if bt1054.1 = 0 then (some (bt1050.1, bt1050.1, bt1054.2)) else (if bt1054.1 = 1 then (some ((-1), bt1050.2.1, bt1054.2)) else (if bt1054.1 = 2 then (some (bt1050.1, 49, bt1054.2)) else (if bt1054.1 = 3 then (some (9223372036854775807, (-9223372036854775808), bt1054.2)) else (some (bt1050.1, bt1050.2.1, bt1054.2)))))))
set_option maxHeartbeats 8000000 in
set_option maxRecDepth 100000 in
theorem spec_l1Some.calls (k : Nat) (g : Nat) (s0_0 : List Int) (s0_1 : Int) (r1 : Int) (r2 : Int) (r3 : Int) (w0 w : World) (hI : IsS83 w0 w g s0_0 s0_1) (hB : Below w0.heap.size w0 w) (h : spec_l1Some.f k s0_0 s0_1 = some (r1, r2, r3)) :
  Calls Try.prog 65 #[.pointer (some ⟨g, 0, none⟩)] w fun e w' => e = .returned (.agg #[.int .i64 r1, .int .i64 r2]) ∧ IsS83 w0 w' g s0_0 r3 ∧ Below w0.heap.size w0 w' ∧ KeepBut w w' g none := by
 have hu42 := Try.underlying42
 have HI0 := Ak hI
 have HK := Ak (KeepBut.refl w g none)
 have HL := Ak hB.size
 clear hI
 have HW0 := Ak hB.size
 have HB := Ak hB
 clear hB
 have H : ((spec_l1Span.f k s0_0 s0_1).bind fun bt1050 => ((spec_l10Rd_pick.f k s0_0 bt1050.2.2 48).bind fun bt1054 => (if bt1054.1 = 0 then (some (bt1050.1, bt1050.1, bt1054.2)) else (if bt1054.1 = 1 then (some ((-1), bt1050.2.1, bt1054.2)) else (if bt1054.1 = 2 then (some (bt1050.1, 49, bt1054.2)) else (if bt1054.1 = 3 then (some (9223372036854775807, (-9223372036854775808), bt1054.2)) else (some (bt1050.1, bt1050.2.1, bt1054.2)))))))) = some (r1, r2, r3) := h
 clear h
 replace H := Option.bind_eq_some_iff.mp H
 obtain ⟨⟨t1050, t1051, t1052⟩, A20, H⟩ := H
 replace H : ((spec_l10Rd_pick.f k s0_0 t1052 48).bind fun bt1054 => (if bt1054.1 = 0 then (some (t1050, t1050, bt1054.2)) else (if bt1054.1 = 1 then (some ((-1), t1051, bt1054.2)) else (if bt1054.1 = 2 then (some (t1050, 49, bt1054.2)) else (if bt1054.1 = 3 then (some (9223372036854775807, (-9223372036854775808), bt1054.2)) else (some (t1050, t1051, bt1054.2))))))) = some (r1, r2, r3) := H
 have A2 := Ak A20
 clear A20
 replace H := Option.bind_eq_some_iff.mp H
 obtain ⟨⟨t1054, t1055⟩, A30, H⟩ := H
 replace H : (if t1054 = 0 then (some (t1050, t1050, t1055)) else (if t1054 = 1 then (some ((-1), t1051, t1055)) else (if t1054 = 2 then (some (t1050, 49, t1055)) else (if t1054 = 3 then (some (9223372036854775807, (-9223372036854775808), t1055)) else (some (t1050, t1051, t1055)))))) = some (r1, r2, r3) := H
 have A3 := Ak A30
 clear A30
 by_cases c4 : t1054 = 0
 ·rw [if_pos c4] at H
  have c4b0 : (t1054 == 0) = true := beq_iff_eq.mpr c4
  have c4b1 : (t1054 != 0) = false := bne_eq_false_iff_eq.mpr c4
  clear c4
  simp only [Option.some.injEq, Prod.mk.injEq] at H
  obtain ⟨rfl, rfl, rfl⟩ := H
  go_enter Try.func65, Try.ntmps65
  go_wp2_with (first | ((with_reducible refine gate_dst (N := 2) rfl ?_); refine box_event ?hg (N := 2) ?hd (cs := #[.int .i64 0, .int .i64 0]) (t := 42) ?hr ?_; (case hd => rfl); (case hg => rfl); (case hr => first | (go_simp; done) | (go_simp; rfl)); intro gb1049 hg w5 hbox hb; have n0_ := Ak (IsS83.below (by repeat (first | (with_reducible first | exact HI0.out | apply IsS83.alloc | apply IsS83.drewN | apply IsS83.drew | apply IsS83.set_1) | exact HI0.out)) hb); have n1_ := Ak (KeepBut.trans (by repeat (first | (with_reducible first | exact HK.out | apply KeepBut.set_ | apply keep_drewN | apply keep_drew | apply keep_alloc) | exact HK.out)) (KeepBut.of_below hb g none) (.inl rfl)); have n2_ := Ak (below_step (by repeat (first | (with_reducible first | exact HB.out | apply below_alloc | apply pw_below_drewN | apply below_drew1 | refine below_set ?_ (IsS83.ge HI0.out)) | exact HB.out)) hb); have n3_ := Ak (hbox); have n4_ := Ak ((by rw [hg]; exact (keep_size (w := w) (g := g) (row := none) (by repeat (first | (with_reducible first | exact HK.out | apply KeepBut.set_ | apply keep_drewN | apply keep_drew | apply keep_alloc) | exact HK.out))) : w.heap.size ≤ gb1049)); have n5_ := Ak ((Nat.le_trans HW0.out (by rw [hg]; exact (keep_size (w := w) (g := g) (row := none) (by repeat (first | (with_reducible first | exact HK.out | apply KeepBut.set_ | apply keep_drewN | apply keep_drew | apply keep_alloc) | exact HK.out))) : w.heap.size ≤ gb1049) : w0.heap.size ≤ gb1049)); have n6_ := Ak ((by rw [hg]; exact Nat.ne_of_lt (IsS83.lt (show IsS83 w0 _ g s0_0 s0_1 from by repeat (first | (with_reducible first | exact HI0.out | apply IsS83.alloc | apply IsS83.drewN | apply IsS83.drew | apply IsS83.set_1) | exact HI0.out))) : g ≠ gb1049)); have n7_ := Ak ((by rw [hg]; exact Nat.ne_of_gt (IsS83.lt (show IsS83 w0 _ g s0_0 s0_1 from by repeat (first | (with_reducible first | exact HI0.out | apply IsS83.alloc | apply IsS83.drewN | apply IsS83.drew | apply IsS83.set_1) | exact HI0.out))) : gb1049 ≠ g)); clear HI0; clear HK; clear HB; have HI0 := n0_; have HK := n1_; have HB := n2_; have BK1049 := n3_; have GW1049 := n4_; have GE1049 := n5_; have NB0_1049 := n6_; have NB1049_0 := n7_; clear n0_ n1_ n2_ n3_ n4_ n5_ n6_ n7_; clear hb hbox hg) | ((with_reducible refine gate_callee (f := 77) rfl ?_); refine goesL_ (some 5) rfl rfl Try.func77 (by kernel_rfl) rfl #[.pointer (some ⟨g, 0, none⟩)] rfl (by (try simp only [List.map_toArray, List.map_cons, List.map_nil]); first | done | rfl | (simp only [List.length_drop, List.length_take]; rfl)) ?_; (with_reducible refine (spec_l1Span.calls k g s0_0 s0_1 t1050 t1051 t1052 w0 _ ?side1 ?side2 A2.out).mono ?_); (case side1 => repeat (first | (with_reducible first | exact HI0.out | apply IsS83.alloc | apply IsS83.drewN | apply IsS83.drew | apply IsS83.set_1 | refine IsS83.far ?_ NB0_1049.out _) | exact HI0.out)); (case side2 => repeat (first | (with_reducible first | exact HB.out | apply below_alloc | apply pw_below_drewN | apply below_drew1 | refine below_set ?_ (IsS83.ge HI0.out) | refine below_set ?_ GE1049.out) | exact HB.out)); rintro e w6 ⟨rfl, hi, hb, hk⟩; refine ⟨_, rfl, ?_⟩; have n0_ := Ak (KeepBut.blk hk (g' := gb1049) (o := .cells #[.int .i64 0, .int .i64 0] 42 (0, 0)) (by (with_reducible repeat (first | refine blk_drewN ?_ _ | refine blk_drew ?_ | refine blk_alloc ?_ _)); exact BK1049.out) NB1049_0.out (by simp)); have n1_ := Ak (KeepBut.trans (by repeat (first | (with_reducible first | exact HK.out | apply KeepBut.set_ | apply keep_drewN | apply keep_drew | apply keep_alloc | refine keep_far ?_ GW1049.out _) | exact HK.out)) hk (.inl rfl)); have n2_ := Ak (hb); have n3_ := Ak (hi); clear BK1049; clear HK; clear HB; clear HI0; have BK1049 := n0_; have HK := n1_; have HB := n2_; have HI0 := n3_; clear n0_ n1_ n2_ n3_; (try clear hb); (try clear hb2); (try clear hk); (try clear hi)) | ((with_reducible refine gate_dst (N := 3) rfl ?_); refine box_event ?hg (N := 3) ?hd (cs := #[.int .i64 0, .int .i64 0]) (t := 42) ?hr ?_; (case hd => rfl); (case hg => rfl); (case hr => first | (go_simp; done) | (go_simp; rfl)); intro gb1053 hg w7 hbox hb; have n0_ := Ak (IsS83.below (by repeat (first | (with_reducible first | exact HI0.out | apply IsS83.alloc | apply IsS83.drewN | apply IsS83.drew | apply IsS83.set_1 | refine IsS83.far ?_ NB0_1049.out _) | exact HI0.out)) hb); have n1_ := Ak (blk_below (g := gb1049) (o := .cells #[.int .i64 0, .int .i64 0] 42 (0, 0)) (by (with_reducible repeat (first | refine blk_drewN ?_ _ | refine blk_drew ?_ | refine blk_alloc ?_ _)); exact BK1049.out) hb); have n2_ := Ak (KeepBut.trans (by repeat (first | (with_reducible first | exact HK.out | apply KeepBut.set_ | apply keep_drewN | apply keep_drew | apply keep_alloc | refine keep_far ?_ GW1049.out _) | exact HK.out)) (KeepBut.of_below hb g none) (.inl rfl)); have n3_ := Ak (below_step (by repeat (first | (with_reducible first | exact HB.out | apply below_alloc | apply pw_below_drewN | apply below_drew1 | refine below_set ?_ (IsS83.ge HI0.out) | refine below_set ?_ GE1049.out) | exact HB.out)) hb); have n4_ := Ak (hbox); have n5_ := Ak ((by rw [hg]; exact (keep_size (w := w) (g := g) (row := none) (by repeat (first | (with_reducible first | exact HK.out | apply KeepBut.set_ | apply keep_drewN | apply keep_drew | apply keep_alloc | refine keep_far ?_ GW1049.out _) | exact HK.out))) : w.heap.size ≤ gb1053)); have n6_ := Ak ((Nat.le_trans HW0.out (by rw [hg]; exact (keep_size (w := w) (g := g) (row := none) (by repeat (first | (with_reducible first | exact HK.out | apply KeepBut.set_ | apply keep_drewN | apply keep_drew | apply keep_alloc | refine keep_far ?_ GW1049.out _) | exact HK.out))) : w.heap.size ≤ gb1053) : w0.heap.size ≤ gb1053)); have n7_ := Ak ((by rw [hg]; exact Nat.ne_of_lt (blk_lt (g := gb1049) (o := .cells #[.int .i64 0, .int .i64 0] 42 (0, 0)) (by (with_reducible repeat (first | refine blk_drewN ?_ _ | refine blk_drew ?_ | refine blk_alloc ?_ _)); exact BK1049.out)) : gb1049 ≠ gb1053)); have n8_ := Ak ((by rw [hg]; exact Nat.ne_of_gt (blk_lt (g := gb1049) (o := .cells #[.int .i64 0, .int .i64 0] 42 (0, 0)) (by (with_reducible repeat (first | refine blk_drewN ?_ _ | refine blk_drew ?_ | refine blk_alloc ?_ _)); exact BK1049.out)) : gb1053 ≠ gb1049)); have n9_ := Ak ((by rw [hg]; exact Nat.ne_of_lt (IsS83.lt (show IsS83 w0 _ g s0_0 t1052 from by repeat (first | (with_reducible first | exact HI0.out | apply IsS83.alloc | apply IsS83.drewN | apply IsS83.drew | apply IsS83.set_1 | refine IsS83.far ?_ NB0_1049.out _) | exact HI0.out))) : g ≠ gb1053)); have n10_ := Ak ((by rw [hg]; exact Nat.ne_of_gt (IsS83.lt (show IsS83 w0 _ g s0_0 t1052 from by repeat (first | (with_reducible first | exact HI0.out | apply IsS83.alloc | apply IsS83.drewN | apply IsS83.drew | apply IsS83.set_1 | refine IsS83.far ?_ NB0_1049.out _) | exact HI0.out))) : gb1053 ≠ g)); clear HI0; clear BK1049; clear HK; clear HB; have HI0 := n0_; have BK1049 := n1_; have HK := n2_; have HB := n3_; have BK1053 := n4_; have GW1053 := n5_; have GE1053 := n6_; have NB1049_1053 := n7_; have NB1053_1049 := n8_; have NB0_1053 := n9_; have NB1053_0 := n10_; clear n0_ n1_ n2_ n3_ n4_ n5_ n6_ n7_ n8_ n9_ n10_; clear hb hbox hg; have hnb8 := NB1053_1049.out; have hnc8 := NB1049_1053.out; have hnb9 := NB1053_0.out; have hnc9 := NB0_1053.out; have hcz10_0 : w7.cell? ⟨gb1053, 0, none⟩ = some (.int .i64 0) := (blk_cell BK1053.out 0).trans rfl; have hcz10_1 : w7.cell? ⟨gb1053, 1, none⟩ = some (.int .i64 0) := (blk_cell BK1053.out 1).trans rfl; have hfz10_0 := blk_frozen BK1053.out 0; have hfz10_1 := blk_frozen BK1053.out 1) | ((with_reducible refine gate_callee (f := 60) rfl ?_); refine goesL_ (some 7) rfl rfl Try.func60 (by kernel_rfl) rfl #[.pointer (some ⟨g, 0, none⟩), .int .i64 48] rfl (by (try simp only [List.map_toArray, List.map_cons, List.map_nil]); first | done | rfl | (simp only [List.length_drop, List.length_take]; rfl)) ?_; (with_reducible refine (spec_l10Rd_pick.calls k g s0_0 t1052 48 t1054 t1055 w0 _ ?side1 ?side2 A3.out).mono ?_); (case side1 => repeat (first | (with_reducible first | exact HI0.out | apply IsS83.alloc | apply IsS83.drewN | apply IsS83.drew | apply IsS83.set_1 | refine IsS83.far ?_ NB0_1049.out _ | refine IsS83.far ?_ NB0_1053.out _) | exact HI0.out)); (case side2 => repeat (first | (with_reducible first | exact HB.out | apply below_alloc | apply pw_below_drewN | apply below_drew1 | refine below_set ?_ (IsS83.ge HI0.out) | refine below_set ?_ GE1049.out | refine below_set ?_ GE1053.out) | exact HB.out)); rintro e w11 ⟨rfl, hi, hb, hk⟩; refine ⟨_, rfl, ?_⟩; have n0_ := Ak (KeepBut.blk hk (g' := gb1049) (o := .cells #[.int .i64 0, .int .i64 0] 42 (0, 0)) (by (with_reducible repeat (first | refine blk_drewN ?_ _ | refine blk_drew ?_ | refine blk_alloc ?_ _)); refine blk_far ?_ NB1049_1053.out _; (with_reducible repeat (first | refine blk_drewN ?_ _ | refine blk_drew ?_ | refine blk_alloc ?_ _)); refine blk_far ?_ NB1049_1053.out _; (with_reducible repeat (first | refine blk_drewN ?_ _ | refine blk_drew ?_ | refine blk_alloc ?_ _)); exact BK1049.out) NB1049_0.out (by simp)); have n1_ := Ak (KeepBut.blk hk (g' := gb1053) (o := .cells #[.int .i64 t1050, .int .i64 t1051] 42 (0, 0)) (by (with_reducible repeat (first | refine blk_drewN ?_ _ | refine blk_drew ?_ | refine blk_alloc ?_ _)); refine blk_put (cs := #[.int .i64 t1050, .int .i64 0]) ?_ 1 _ rfl; (with_reducible repeat (first | refine blk_drewN ?_ _ | refine blk_drew ?_ | refine blk_alloc ?_ _)); refine blk_put (cs := #[.int .i64 0, .int .i64 0]) ?_ 0 _ rfl; (with_reducible repeat (first | refine blk_drewN ?_ _ | refine blk_drew ?_ | refine blk_alloc ?_ _)); exact BK1053.out) NB1053_0.out (by simp)); have n2_ := Ak (KeepBut.trans (by repeat (first | (with_reducible first | exact HK.out | apply KeepBut.set_ | apply keep_drewN | apply keep_drew | apply keep_alloc | refine keep_far ?_ GW1049.out _ | refine keep_far ?_ GW1053.out _) | exact HK.out)) hk (.inl rfl)); have n3_ := Ak (hb); have n4_ := Ak (hi); clear BK1049; clear BK1053; clear HK; clear HB; clear HI0; have BK1049 := n0_; have BK1053 := n1_; have HK := n2_; have HB := n3_; have HI0 := n4_; clear n0_ n1_ n2_ n3_ n4_; (try clear hb); (try clear hb2); (try clear hk); (try clear hi); have hcz12_0 : w11.cell? ⟨gb1053, 0, none⟩ = some (.int .i64 t1050) := (blk_cell BK1053.out 0).trans rfl; have hcz12_1 : w11.cell? ⟨gb1053, 1, none⟩ = some (.int .i64 t1051) := (blk_cell BK1053.out 1).trans rfl; have hfz12_0 := blk_frozen BK1053.out 0; have hfz12_1 := blk_frozen BK1053.out 1; have hnb13 := NB1049_0.out; have hnc13 := NB0_1049.out; have hcz14_0 : w11.cell? ⟨gb1049, 0, none⟩ = some (.int .i64 0) := (blk_cell BK1049.out 0).trans rfl; have hcz14_1 : w11.cell? ⟨gb1049, 1, none⟩ = some (.int .i64 0) := (blk_cell BK1049.out 1).trans rfl; have hfz14_0 := blk_frozen BK1049.out 0; have hfz14_1 := blk_frozen BK1049.out 1))
  refine bodyPost_ret (results_cell_row rfl _ _ gb1049 42 #[.int .i64 t1050, .int .i64 t1050] (0, 0) _ rfl (by (with_reducible repeat (first | refine blk_drewN ?_ _ | refine blk_drew ?_ | refine blk_alloc ?_ _)); refine blk_put (cs := #[.int .i64 t1050, .int .i64 0]) ?_ 1 _ rfl; (with_reducible repeat (first | refine blk_drewN ?_ _ | refine blk_drew ?_ | refine blk_alloc ?_ _)); refine blk_put (cs := #[.int .i64 0, .int .i64 0]) ?_ 0 _ rfl; (with_reducible repeat (first | refine blk_drewN ?_ _ | refine blk_drew ?_ | refine blk_alloc ?_ _)); refine blk_far ?_ NB1049_1053.out _; (with_reducible repeat (first | refine blk_drewN ?_ _ | refine blk_drew ?_ | refine blk_alloc ?_ _)); exact BK1049.out) Try.underlying42 rfl (by kernel_rfl)) rfl ?_
  exact ⟨by first | rfl | (simp [errW_none, errW_some] <;> rfl) | (simp [*, errW_none, errW_some] <;> rfl), by repeat (first | (with_reducible first | exact HI0.out | apply IsS83.alloc | apply IsS83.drewN | apply IsS83.drew | apply IsS83.set_1 | refine IsS83.far ?_ NB0_1049.out _ | refine IsS83.far ?_ NB0_1053.out _) | exact HI0.out), by repeat (first | (with_reducible first | exact HB.out | apply below_alloc | apply pw_below_drewN | apply below_drew1 | refine below_set ?_ (IsS83.ge HI0.out) | refine below_set ?_ GE1049.out | refine below_set ?_ GE1053.out) | exact HB.out), by repeat (first | (with_reducible first | exact HK.out | apply KeepBut.set_ | apply keep_drewN | apply keep_drew | apply keep_alloc | refine keep_far ?_ GW1049.out _ | refine keep_far ?_ GW1053.out _) | exact HK.out)⟩
 ·rw [if_neg c4] at H
  have c4b0 : (t1054 == 0) = false := beq_eq_false_iff_ne.mpr c4
  have c4b1 : (t1054 != 0) = true := bne_iff_ne.mpr c4
  by_cases c15 : t1054 = 1
  ·rw [if_pos c15] at H
   have c15b0 : (t1054 == 1) = true := beq_iff_eq.mpr c15
   have c15b1 : (t1054 != 1) = false := bne_eq_false_iff_eq.mpr c15
   clear c15
   simp only [Option.some.injEq, Prod.mk.injEq] at H
   obtain ⟨rfl, rfl, rfl⟩ := H
   go_enter Try.func65, Try.ntmps65
   go_wp2_with (first | ((with_reducible refine gate_dst (N := 2) rfl ?_); refine box_event ?hg (N := 2) ?hd (cs := #[.int .i64 0, .int .i64 0]) (t := 42) ?hr ?_; (case hd => rfl); (case hg => rfl); (case hr => first | (go_simp; done) | (go_simp; rfl)); intro gb1049 hg w16 hbox hb; have n0_ := Ak (IsS83.below (by repeat (first | (with_reducible first | exact HI0.out | apply IsS83.alloc | apply IsS83.drewN | apply IsS83.drew | apply IsS83.set_1) | exact HI0.out)) hb); have n1_ := Ak (KeepBut.trans (by repeat (first | (with_reducible first | exact HK.out | apply KeepBut.set_ | apply keep_drewN | apply keep_drew | apply keep_alloc) | exact HK.out)) (KeepBut.of_below hb g none) (.inl rfl)); have n2_ := Ak (below_step (by repeat (first | (with_reducible first | exact HB.out | apply below_alloc | apply pw_below_drewN | apply below_drew1 | refine below_set ?_ (IsS83.ge HI0.out)) | exact HB.out)) hb); have n3_ := Ak (hbox); have n4_ := Ak ((by rw [hg]; exact (keep_size (w := w) (g := g) (row := none) (by repeat (first | (with_reducible first | exact HK.out | apply KeepBut.set_ | apply keep_drewN | apply keep_drew | apply keep_alloc) | exact HK.out))) : w.heap.size ≤ gb1049)); have n5_ := Ak ((Nat.le_trans HW0.out (by rw [hg]; exact (keep_size (w := w) (g := g) (row := none) (by repeat (first | (with_reducible first | exact HK.out | apply KeepBut.set_ | apply keep_drewN | apply keep_drew | apply keep_alloc) | exact HK.out))) : w.heap.size ≤ gb1049) : w0.heap.size ≤ gb1049)); have n6_ := Ak ((by rw [hg]; exact Nat.ne_of_lt (IsS83.lt (show IsS83 w0 _ g s0_0 s0_1 from by repeat (first | (with_reducible first | exact HI0.out | apply IsS83.alloc | apply IsS83.drewN | apply IsS83.drew | apply IsS83.set_1) | exact HI0.out))) : g ≠ gb1049)); have n7_ := Ak ((by rw [hg]; exact Nat.ne_of_gt (IsS83.lt (show IsS83 w0 _ g s0_0 s0_1 from by repeat (first | (with_reducible first | exact HI0.out | apply IsS83.alloc | apply IsS83.drewN | apply IsS83.drew | apply IsS83.set_1) | exact HI0.out))) : gb1049 ≠ g)); clear HI0; clear HK; clear HB; have HI0 := n0_; have HK := n1_; have HB := n2_; have BK1049 := n3_; have GW1049 := n4_; have GE1049 := n5_; have NB0_1049 := n6_; have NB1049_0 := n7_; clear n0_ n1_ n2_ n3_ n4_ n5_ n6_ n7_; clear hb hbox hg) | ((with_reducible refine gate_callee (f := 77) rfl ?_); refine goesL_ (some 5) rfl rfl Try.func77 (by kernel_rfl) rfl #[.pointer (some ⟨g, 0, none⟩)] rfl (by (try simp only [List.map_toArray, List.map_cons, List.map_nil]); first | done | rfl | (simp only [List.length_drop, List.length_take]; rfl)) ?_; (with_reducible refine (spec_l1Span.calls k g s0_0 s0_1 t1050 t1051 t1052 w0 _ ?side1 ?side2 A2.out).mono ?_); (case side1 => repeat (first | (with_reducible first | exact HI0.out | apply IsS83.alloc | apply IsS83.drewN | apply IsS83.drew | apply IsS83.set_1 | refine IsS83.far ?_ NB0_1049.out _) | exact HI0.out)); (case side2 => repeat (first | (with_reducible first | exact HB.out | apply below_alloc | apply pw_below_drewN | apply below_drew1 | refine below_set ?_ (IsS83.ge HI0.out) | refine below_set ?_ GE1049.out) | exact HB.out)); rintro e w17 ⟨rfl, hi, hb, hk⟩; refine ⟨_, rfl, ?_⟩; have n0_ := Ak (KeepBut.blk hk (g' := gb1049) (o := .cells #[.int .i64 0, .int .i64 0] 42 (0, 0)) (by (with_reducible repeat (first | refine blk_drewN ?_ _ | refine blk_drew ?_ | refine blk_alloc ?_ _)); exact BK1049.out) NB1049_0.out (by simp)); have n1_ := Ak (KeepBut.trans (by repeat (first | (with_reducible first | exact HK.out | apply KeepBut.set_ | apply keep_drewN | apply keep_drew | apply keep_alloc | refine keep_far ?_ GW1049.out _) | exact HK.out)) hk (.inl rfl)); have n2_ := Ak (hb); have n3_ := Ak (hi); clear BK1049; clear HK; clear HB; clear HI0; have BK1049 := n0_; have HK := n1_; have HB := n2_; have HI0 := n3_; clear n0_ n1_ n2_ n3_; (try clear hb); (try clear hb2); (try clear hk); (try clear hi)) | ((with_reducible refine gate_dst (N := 3) rfl ?_); refine box_event ?hg (N := 3) ?hd (cs := #[.int .i64 0, .int .i64 0]) (t := 42) ?hr ?_; (case hd => rfl); (case hg => rfl); (case hr => first | (go_simp; done) | (go_simp; rfl)); intro gb1053 hg w18 hbox hb; have n0_ := Ak (IsS83.below (by repeat (first | (with_reducible first | exact HI0.out | apply IsS83.alloc | apply IsS83.drewN | apply IsS83.drew | apply IsS83.set_1 | refine IsS83.far ?_ NB0_1049.out _) | exact HI0.out)) hb); have n1_ := Ak (blk_below (g := gb1049) (o := .cells #[.int .i64 0, .int .i64 0] 42 (0, 0)) (by (with_reducible repeat (first | refine blk_drewN ?_ _ | refine blk_drew ?_ | refine blk_alloc ?_ _)); exact BK1049.out) hb); have n2_ := Ak (KeepBut.trans (by repeat (first | (with_reducible first | exact HK.out | apply KeepBut.set_ | apply keep_drewN | apply keep_drew | apply keep_alloc | refine keep_far ?_ GW1049.out _) | exact HK.out)) (KeepBut.of_below hb g none) (.inl rfl)); have n3_ := Ak (below_step (by repeat (first | (with_reducible first | exact HB.out | apply below_alloc | apply pw_below_drewN | apply below_drew1 | refine below_set ?_ (IsS83.ge HI0.out) | refine below_set ?_ GE1049.out) | exact HB.out)) hb); have n4_ := Ak (hbox); have n5_ := Ak ((by rw [hg]; exact (keep_size (w := w) (g := g) (row := none) (by repeat (first | (with_reducible first | exact HK.out | apply KeepBut.set_ | apply keep_drewN | apply keep_drew | apply keep_alloc | refine keep_far ?_ GW1049.out _) | exact HK.out))) : w.heap.size ≤ gb1053)); have n6_ := Ak ((Nat.le_trans HW0.out (by rw [hg]; exact (keep_size (w := w) (g := g) (row := none) (by repeat (first | (with_reducible first | exact HK.out | apply KeepBut.set_ | apply keep_drewN | apply keep_drew | apply keep_alloc | refine keep_far ?_ GW1049.out _) | exact HK.out))) : w.heap.size ≤ gb1053) : w0.heap.size ≤ gb1053)); have n7_ := Ak ((by rw [hg]; exact Nat.ne_of_lt (blk_lt (g := gb1049) (o := .cells #[.int .i64 0, .int .i64 0] 42 (0, 0)) (by (with_reducible repeat (first | refine blk_drewN ?_ _ | refine blk_drew ?_ | refine blk_alloc ?_ _)); exact BK1049.out)) : gb1049 ≠ gb1053)); have n8_ := Ak ((by rw [hg]; exact Nat.ne_of_gt (blk_lt (g := gb1049) (o := .cells #[.int .i64 0, .int .i64 0] 42 (0, 0)) (by (with_reducible repeat (first | refine blk_drewN ?_ _ | refine blk_drew ?_ | refine blk_alloc ?_ _)); exact BK1049.out)) : gb1053 ≠ gb1049)); have n9_ := Ak ((by rw [hg]; exact Nat.ne_of_lt (IsS83.lt (show IsS83 w0 _ g s0_0 t1052 from by repeat (first | (with_reducible first | exact HI0.out | apply IsS83.alloc | apply IsS83.drewN | apply IsS83.drew | apply IsS83.set_1 | refine IsS83.far ?_ NB0_1049.out _) | exact HI0.out))) : g ≠ gb1053)); have n10_ := Ak ((by rw [hg]; exact Nat.ne_of_gt (IsS83.lt (show IsS83 w0 _ g s0_0 t1052 from by repeat (first | (with_reducible first | exact HI0.out | apply IsS83.alloc | apply IsS83.drewN | apply IsS83.drew | apply IsS83.set_1 | refine IsS83.far ?_ NB0_1049.out _) | exact HI0.out))) : gb1053 ≠ g)); clear HI0; clear BK1049; clear HK; clear HB; have HI0 := n0_; have BK1049 := n1_; have HK := n2_; have HB := n3_; have BK1053 := n4_; have GW1053 := n5_; have GE1053 := n6_; have NB1049_1053 := n7_; have NB1053_1049 := n8_; have NB0_1053 := n9_; have NB1053_0 := n10_; clear n0_ n1_ n2_ n3_ n4_ n5_ n6_ n7_ n8_ n9_ n10_; clear hb hbox hg; have hnb19 := NB1053_1049.out; have hnc19 := NB1049_1053.out; have hnb20 := NB1053_0.out; have hnc20 := NB0_1053.out; have hcz21_0 : w18.cell? ⟨gb1053, 0, none⟩ = some (.int .i64 0) := (blk_cell BK1053.out 0).trans rfl; have hcz21_1 : w18.cell? ⟨gb1053, 1, none⟩ = some (.int .i64 0) := (blk_cell BK1053.out 1).trans rfl; have hfz21_0 := blk_frozen BK1053.out 0; have hfz21_1 := blk_frozen BK1053.out 1) | ((with_reducible refine gate_callee (f := 60) rfl ?_); refine goesL_ (some 7) rfl rfl Try.func60 (by kernel_rfl) rfl #[.pointer (some ⟨g, 0, none⟩), .int .i64 48] rfl (by (try simp only [List.map_toArray, List.map_cons, List.map_nil]); first | done | rfl | (simp only [List.length_drop, List.length_take]; rfl)) ?_; (with_reducible refine (spec_l10Rd_pick.calls k g s0_0 t1052 48 t1054 t1055 w0 _ ?side1 ?side2 A3.out).mono ?_); (case side1 => repeat (first | (with_reducible first | exact HI0.out | apply IsS83.alloc | apply IsS83.drewN | apply IsS83.drew | apply IsS83.set_1 | refine IsS83.far ?_ NB0_1049.out _ | refine IsS83.far ?_ NB0_1053.out _) | exact HI0.out)); (case side2 => repeat (first | (with_reducible first | exact HB.out | apply below_alloc | apply pw_below_drewN | apply below_drew1 | refine below_set ?_ (IsS83.ge HI0.out) | refine below_set ?_ GE1049.out | refine below_set ?_ GE1053.out) | exact HB.out)); rintro e w22 ⟨rfl, hi, hb, hk⟩; refine ⟨_, rfl, ?_⟩; have n0_ := Ak (KeepBut.blk hk (g' := gb1049) (o := .cells #[.int .i64 0, .int .i64 0] 42 (0, 0)) (by (with_reducible repeat (first | refine blk_drewN ?_ _ | refine blk_drew ?_ | refine blk_alloc ?_ _)); refine blk_far ?_ NB1049_1053.out _; (with_reducible repeat (first | refine blk_drewN ?_ _ | refine blk_drew ?_ | refine blk_alloc ?_ _)); refine blk_far ?_ NB1049_1053.out _; (with_reducible repeat (first | refine blk_drewN ?_ _ | refine blk_drew ?_ | refine blk_alloc ?_ _)); exact BK1049.out) NB1049_0.out (by simp)); have n1_ := Ak (KeepBut.blk hk (g' := gb1053) (o := .cells #[.int .i64 t1050, .int .i64 t1051] 42 (0, 0)) (by (with_reducible repeat (first | refine blk_drewN ?_ _ | refine blk_drew ?_ | refine blk_alloc ?_ _)); refine blk_put (cs := #[.int .i64 t1050, .int .i64 0]) ?_ 1 _ rfl; (with_reducible repeat (first | refine blk_drewN ?_ _ | refine blk_drew ?_ | refine blk_alloc ?_ _)); refine blk_put (cs := #[.int .i64 0, .int .i64 0]) ?_ 0 _ rfl; (with_reducible repeat (first | refine blk_drewN ?_ _ | refine blk_drew ?_ | refine blk_alloc ?_ _)); exact BK1053.out) NB1053_0.out (by simp)); have n2_ := Ak (KeepBut.trans (by repeat (first | (with_reducible first | exact HK.out | apply KeepBut.set_ | apply keep_drewN | apply keep_drew | apply keep_alloc | refine keep_far ?_ GW1049.out _ | refine keep_far ?_ GW1053.out _) | exact HK.out)) hk (.inl rfl)); have n3_ := Ak (hb); have n4_ := Ak (hi); clear BK1049; clear BK1053; clear HK; clear HB; clear HI0; have BK1049 := n0_; have BK1053 := n1_; have HK := n2_; have HB := n3_; have HI0 := n4_; clear n0_ n1_ n2_ n3_ n4_; (try clear hb); (try clear hb2); (try clear hk); (try clear hi); have hcz23_0 : w22.cell? ⟨gb1053, 0, none⟩ = some (.int .i64 t1050) := (blk_cell BK1053.out 0).trans rfl; have hcz23_1 : w22.cell? ⟨gb1053, 1, none⟩ = some (.int .i64 t1051) := (blk_cell BK1053.out 1).trans rfl; have hfz23_0 := blk_frozen BK1053.out 0; have hfz23_1 := blk_frozen BK1053.out 1; have hnb24 := NB1049_0.out; have hnc24 := NB0_1049.out; have hcz25_0 : w22.cell? ⟨gb1049, 0, none⟩ = some (.int .i64 0) := (blk_cell BK1049.out 0).trans rfl; have hcz25_1 : w22.cell? ⟨gb1049, 1, none⟩ = some (.int .i64 0) := (blk_cell BK1049.out 1).trans rfl; have hfz25_0 := blk_frozen BK1049.out 0; have hfz25_1 := blk_frozen BK1049.out 1))
   refine bodyPost_ret (results_cell_row rfl _ _ gb1049 42 #[.int .i64 (-1), .int .i64 t1051] (0, 0) _ rfl (by (with_reducible repeat (first | refine blk_drewN ?_ _ | refine blk_drew ?_ | refine blk_alloc ?_ _)); refine blk_put (cs := #[.int .i64 (-1), .int .i64 0]) ?_ 1 _ rfl; (with_reducible repeat (first | refine blk_drewN ?_ _ | refine blk_drew ?_ | refine blk_alloc ?_ _)); refine blk_put (cs := #[.int .i64 0, .int .i64 0]) ?_ 0 _ rfl; (with_reducible repeat (first | refine blk_drewN ?_ _ | refine blk_drew ?_ | refine blk_alloc ?_ _)); refine blk_far ?_ NB1049_1053.out _; (with_reducible repeat (first | refine blk_drewN ?_ _ | refine blk_drew ?_ | refine blk_alloc ?_ _)); exact BK1049.out) Try.underlying42 rfl (by kernel_rfl)) rfl ?_
   exact ⟨by first | rfl | (simp [errW_none, errW_some] <;> rfl) | (simp [*, errW_none, errW_some] <;> rfl), by repeat (first | (with_reducible first | exact HI0.out | apply IsS83.alloc | apply IsS83.drewN | apply IsS83.drew | apply IsS83.set_1 | refine IsS83.far ?_ NB0_1049.out _ | refine IsS83.far ?_ NB0_1053.out _) | exact HI0.out), by repeat (first | (with_reducible first | exact HB.out | apply below_alloc | apply pw_below_drewN | apply below_drew1 | refine below_set ?_ (IsS83.ge HI0.out) | refine below_set ?_ GE1049.out | refine below_set ?_ GE1053.out) | exact HB.out), by repeat (first | (with_reducible first | exact HK.out | apply KeepBut.set_ | apply keep_drewN | apply keep_drew | apply keep_alloc | refine keep_far ?_ GW1049.out _ | refine keep_far ?_ GW1053.out _) | exact HK.out)⟩
  ·rw [if_neg c15] at H
   have c15b0 : (t1054 == 1) = false := beq_eq_false_iff_ne.mpr c15
   have c15b1 : (t1054 != 1) = true := bne_iff_ne.mpr c15
   by_cases c26 : t1054 = 2
   ·rw [if_pos c26] at H
    have c26b0 : (t1054 == 2) = true := beq_iff_eq.mpr c26
    have c26b1 : (t1054 != 2) = false := bne_eq_false_iff_eq.mpr c26
    clear c26
    simp only [Option.some.injEq, Prod.mk.injEq] at H
    obtain ⟨rfl, rfl, rfl⟩ := H
    go_enter Try.func65, Try.ntmps65
    go_wp2_with (first | ((with_reducible refine gate_dst (N := 2) rfl ?_); refine box_event ?hg (N := 2) ?hd (cs := #[.int .i64 0, .int .i64 0]) (t := 42) ?hr ?_; (case hd => rfl); (case hg => rfl); (case hr => first | (go_simp; done) | (go_simp; rfl)); intro gb1049 hg w27 hbox hb; have n0_ := Ak (IsS83.below (by repeat (first | (with_reducible first | exact HI0.out | apply IsS83.alloc | apply IsS83.drewN | apply IsS83.drew | apply IsS83.set_1) | exact HI0.out)) hb); have n1_ := Ak (KeepBut.trans (by repeat (first | (with_reducible first | exact HK.out | apply KeepBut.set_ | apply keep_drewN | apply keep_drew | apply keep_alloc) | exact HK.out)) (KeepBut.of_below hb g none) (.inl rfl)); have n2_ := Ak (below_step (by repeat (first | (with_reducible first | exact HB.out | apply below_alloc | apply pw_below_drewN | apply below_drew1 | refine below_set ?_ (IsS83.ge HI0.out)) | exact HB.out)) hb); have n3_ := Ak (hbox); have n4_ := Ak ((by rw [hg]; exact (keep_size (w := w) (g := g) (row := none) (by repeat (first | (with_reducible first | exact HK.out | apply KeepBut.set_ | apply keep_drewN | apply keep_drew | apply keep_alloc) | exact HK.out))) : w.heap.size ≤ gb1049)); have n5_ := Ak ((Nat.le_trans HW0.out (by rw [hg]; exact (keep_size (w := w) (g := g) (row := none) (by repeat (first | (with_reducible first | exact HK.out | apply KeepBut.set_ | apply keep_drewN | apply keep_drew | apply keep_alloc) | exact HK.out))) : w.heap.size ≤ gb1049) : w0.heap.size ≤ gb1049)); have n6_ := Ak ((by rw [hg]; exact Nat.ne_of_lt (IsS83.lt (show IsS83 w0 _ g s0_0 s0_1 from by repeat (first | (with_reducible first | exact HI0.out | apply IsS83.alloc | apply IsS83.drewN | apply IsS83.drew | apply IsS83.set_1) | exact HI0.out))) : g ≠ gb1049)); have n7_ := Ak ((by rw [hg]; exact Nat.ne_of_gt (IsS83.lt (show IsS83 w0 _ g s0_0 s0_1 from by repeat (first | (with_reducible first | exact HI0.out | apply IsS83.alloc | apply IsS83.drewN | apply IsS83.drew | apply IsS83.set_1) | exact HI0.out))) : gb1049 ≠ g)); clear HI0; clear HK; clear HB; have HI0 := n0_; have HK := n1_; have HB := n2_; have BK1049 := n3_; have GW1049 := n4_; have GE1049 := n5_; have NB0_1049 := n6_; have NB1049_0 := n7_; clear n0_ n1_ n2_ n3_ n4_ n5_ n6_ n7_; clear hb hbox hg) | ((with_reducible refine gate_callee (f := 77) rfl ?_); refine goesL_ (some 5) rfl rfl Try.func77 (by kernel_rfl) rfl #[.pointer (some ⟨g, 0, none⟩)] rfl (by (try simp only [List.map_toArray, List.map_cons, List.map_nil]); first | done | rfl | (simp only [List.length_drop, List.length_take]; rfl)) ?_; (with_reducible refine (spec_l1Span.calls k g s0_0 s0_1 t1050 t1051 t1052 w0 _ ?side1 ?side2 A2.out).mono ?_); (case side1 => repeat (first | (with_reducible first | exact HI0.out | apply IsS83.alloc | apply IsS83.drewN | apply IsS83.drew | apply IsS83.set_1 | refine IsS83.far ?_ NB0_1049.out _) | exact HI0.out)); (case side2 => repeat (first | (with_reducible first | exact HB.out | apply below_alloc | apply pw_below_drewN | apply below_drew1 | refine below_set ?_ (IsS83.ge HI0.out) | refine below_set ?_ GE1049.out) | exact HB.out)); rintro e w28 ⟨rfl, hi, hb, hk⟩; refine ⟨_, rfl, ?_⟩; have n0_ := Ak (KeepBut.blk hk (g' := gb1049) (o := .cells #[.int .i64 0, .int .i64 0] 42 (0, 0)) (by (with_reducible repeat (first | refine blk_drewN ?_ _ | refine blk_drew ?_ | refine blk_alloc ?_ _)); exact BK1049.out) NB1049_0.out (by simp)); have n1_ := Ak (KeepBut.trans (by repeat (first | (with_reducible first | exact HK.out | apply KeepBut.set_ | apply keep_drewN | apply keep_drew | apply keep_alloc | refine keep_far ?_ GW1049.out _) | exact HK.out)) hk (.inl rfl)); have n2_ := Ak (hb); have n3_ := Ak (hi); clear BK1049; clear HK; clear HB; clear HI0; have BK1049 := n0_; have HK := n1_; have HB := n2_; have HI0 := n3_; clear n0_ n1_ n2_ n3_; (try clear hb); (try clear hb2); (try clear hk); (try clear hi)) | ((with_reducible refine gate_dst (N := 3) rfl ?_); refine box_event ?hg (N := 3) ?hd (cs := #[.int .i64 0, .int .i64 0]) (t := 42) ?hr ?_; (case hd => rfl); (case hg => rfl); (case hr => first | (go_simp; done) | (go_simp; rfl)); intro gb1053 hg w29 hbox hb; have n0_ := Ak (IsS83.below (by repeat (first | (with_reducible first | exact HI0.out | apply IsS83.alloc | apply IsS83.drewN | apply IsS83.drew | apply IsS83.set_1 | refine IsS83.far ?_ NB0_1049.out _) | exact HI0.out)) hb); have n1_ := Ak (blk_below (g := gb1049) (o := .cells #[.int .i64 0, .int .i64 0] 42 (0, 0)) (by (with_reducible repeat (first | refine blk_drewN ?_ _ | refine blk_drew ?_ | refine blk_alloc ?_ _)); exact BK1049.out) hb); have n2_ := Ak (KeepBut.trans (by repeat (first | (with_reducible first | exact HK.out | apply KeepBut.set_ | apply keep_drewN | apply keep_drew | apply keep_alloc | refine keep_far ?_ GW1049.out _) | exact HK.out)) (KeepBut.of_below hb g none) (.inl rfl)); have n3_ := Ak (below_step (by repeat (first | (with_reducible first | exact HB.out | apply below_alloc | apply pw_below_drewN | apply below_drew1 | refine below_set ?_ (IsS83.ge HI0.out) | refine below_set ?_ GE1049.out) | exact HB.out)) hb); have n4_ := Ak (hbox); have n5_ := Ak ((by rw [hg]; exact (keep_size (w := w) (g := g) (row := none) (by repeat (first | (with_reducible first | exact HK.out | apply KeepBut.set_ | apply keep_drewN | apply keep_drew | apply keep_alloc | refine keep_far ?_ GW1049.out _) | exact HK.out))) : w.heap.size ≤ gb1053)); have n6_ := Ak ((Nat.le_trans HW0.out (by rw [hg]; exact (keep_size (w := w) (g := g) (row := none) (by repeat (first | (with_reducible first | exact HK.out | apply KeepBut.set_ | apply keep_drewN | apply keep_drew | apply keep_alloc | refine keep_far ?_ GW1049.out _) | exact HK.out))) : w.heap.size ≤ gb1053) : w0.heap.size ≤ gb1053)); have n7_ := Ak ((by rw [hg]; exact Nat.ne_of_lt (blk_lt (g := gb1049) (o := .cells #[.int .i64 0, .int .i64 0] 42 (0, 0)) (by (with_reducible repeat (first | refine blk_drewN ?_ _ | refine blk_drew ?_ | refine blk_alloc ?_ _)); exact BK1049.out)) : gb1049 ≠ gb1053)); have n8_ := Ak ((by rw [hg]; exact Nat.ne_of_gt (blk_lt (g := gb1049) (o := .cells #[.int .i64 0, .int .i64 0] 42 (0, 0)) (by (with_reducible repeat (first | refine blk_drewN ?_ _ | refine blk_drew ?_ | refine blk_alloc ?_ _)); exact BK1049.out)) : gb1053 ≠ gb1049)); have n9_ := Ak ((by rw [hg]; exact Nat.ne_of_lt (IsS83.lt (show IsS83 w0 _ g s0_0 t1052 from by repeat (first | (with_reducible first | exact HI0.out | apply IsS83.alloc | apply IsS83.drewN | apply IsS83.drew | apply IsS83.set_1 | refine IsS83.far ?_ NB0_1049.out _) | exact HI0.out))) : g ≠ gb1053)); have n10_ := Ak ((by rw [hg]; exact Nat.ne_of_gt (IsS83.lt (show IsS83 w0 _ g s0_0 t1052 from by repeat (first | (with_reducible first | exact HI0.out | apply IsS83.alloc | apply IsS83.drewN | apply IsS83.drew | apply IsS83.set_1 | refine IsS83.far ?_ NB0_1049.out _) | exact HI0.out))) : gb1053 ≠ g)); clear HI0; clear BK1049; clear HK; clear HB; have HI0 := n0_; have BK1049 := n1_; have HK := n2_; have HB := n3_; have BK1053 := n4_; have GW1053 := n5_; have GE1053 := n6_; have NB1049_1053 := n7_; have NB1053_1049 := n8_; have NB0_1053 := n9_; have NB1053_0 := n10_; clear n0_ n1_ n2_ n3_ n4_ n5_ n6_ n7_ n8_ n9_ n10_; clear hb hbox hg; have hnb30 := NB1053_1049.out; have hnc30 := NB1049_1053.out; have hnb31 := NB1053_0.out; have hnc31 := NB0_1053.out; have hcz32_0 : w29.cell? ⟨gb1053, 0, none⟩ = some (.int .i64 0) := (blk_cell BK1053.out 0).trans rfl; have hcz32_1 : w29.cell? ⟨gb1053, 1, none⟩ = some (.int .i64 0) := (blk_cell BK1053.out 1).trans rfl; have hfz32_0 := blk_frozen BK1053.out 0; have hfz32_1 := blk_frozen BK1053.out 1) | ((with_reducible refine gate_callee (f := 60) rfl ?_); refine goesL_ (some 7) rfl rfl Try.func60 (by kernel_rfl) rfl #[.pointer (some ⟨g, 0, none⟩), .int .i64 48] rfl (by (try simp only [List.map_toArray, List.map_cons, List.map_nil]); first | done | rfl | (simp only [List.length_drop, List.length_take]; rfl)) ?_; (with_reducible refine (spec_l10Rd_pick.calls k g s0_0 t1052 48 t1054 t1055 w0 _ ?side1 ?side2 A3.out).mono ?_); (case side1 => repeat (first | (with_reducible first | exact HI0.out | apply IsS83.alloc | apply IsS83.drewN | apply IsS83.drew | apply IsS83.set_1 | refine IsS83.far ?_ NB0_1049.out _ | refine IsS83.far ?_ NB0_1053.out _) | exact HI0.out)); (case side2 => repeat (first | (with_reducible first | exact HB.out | apply below_alloc | apply pw_below_drewN | apply below_drew1 | refine below_set ?_ (IsS83.ge HI0.out) | refine below_set ?_ GE1049.out | refine below_set ?_ GE1053.out) | exact HB.out)); rintro e w33 ⟨rfl, hi, hb, hk⟩; refine ⟨_, rfl, ?_⟩; have n0_ := Ak (KeepBut.blk hk (g' := gb1049) (o := .cells #[.int .i64 0, .int .i64 0] 42 (0, 0)) (by (with_reducible repeat (first | refine blk_drewN ?_ _ | refine blk_drew ?_ | refine blk_alloc ?_ _)); refine blk_far ?_ NB1049_1053.out _; (with_reducible repeat (first | refine blk_drewN ?_ _ | refine blk_drew ?_ | refine blk_alloc ?_ _)); refine blk_far ?_ NB1049_1053.out _; (with_reducible repeat (first | refine blk_drewN ?_ _ | refine blk_drew ?_ | refine blk_alloc ?_ _)); exact BK1049.out) NB1049_0.out (by simp)); have n1_ := Ak (KeepBut.blk hk (g' := gb1053) (o := .cells #[.int .i64 t1050, .int .i64 t1051] 42 (0, 0)) (by (with_reducible repeat (first | refine blk_drewN ?_ _ | refine blk_drew ?_ | refine blk_alloc ?_ _)); refine blk_put (cs := #[.int .i64 t1050, .int .i64 0]) ?_ 1 _ rfl; (with_reducible repeat (first | refine blk_drewN ?_ _ | refine blk_drew ?_ | refine blk_alloc ?_ _)); refine blk_put (cs := #[.int .i64 0, .int .i64 0]) ?_ 0 _ rfl; (with_reducible repeat (first | refine blk_drewN ?_ _ | refine blk_drew ?_ | refine blk_alloc ?_ _)); exact BK1053.out) NB1053_0.out (by simp)); have n2_ := Ak (KeepBut.trans (by repeat (first | (with_reducible first | exact HK.out | apply KeepBut.set_ | apply keep_drewN | apply keep_drew | apply keep_alloc | refine keep_far ?_ GW1049.out _ | refine keep_far ?_ GW1053.out _) | exact HK.out)) hk (.inl rfl)); have n3_ := Ak (hb); have n4_ := Ak (hi); clear BK1049; clear BK1053; clear HK; clear HB; clear HI0; have BK1049 := n0_; have BK1053 := n1_; have HK := n2_; have HB := n3_; have HI0 := n4_; clear n0_ n1_ n2_ n3_ n4_; (try clear hb); (try clear hb2); (try clear hk); (try clear hi); have hcz34_0 : w33.cell? ⟨gb1053, 0, none⟩ = some (.int .i64 t1050) := (blk_cell BK1053.out 0).trans rfl; have hcz34_1 : w33.cell? ⟨gb1053, 1, none⟩ = some (.int .i64 t1051) := (blk_cell BK1053.out 1).trans rfl; have hfz34_0 := blk_frozen BK1053.out 0; have hfz34_1 := blk_frozen BK1053.out 1; have hnb35 := NB1049_0.out; have hnc35 := NB0_1049.out; have hcz36_0 : w33.cell? ⟨gb1049, 0, none⟩ = some (.int .i64 0) := (blk_cell BK1049.out 0).trans rfl; have hcz36_1 : w33.cell? ⟨gb1049, 1, none⟩ = some (.int .i64 0) := (blk_cell BK1049.out 1).trans rfl; have hfz36_0 := blk_frozen BK1049.out 0; have hfz36_1 := blk_frozen BK1049.out 1))
    refine bodyPost_ret (results_cell_row rfl _ _ gb1049 42 #[.int .i64 t1050, .int .i64 49] (0, 0) _ rfl (by (with_reducible repeat (first | refine blk_drewN ?_ _ | refine blk_drew ?_ | refine blk_alloc ?_ _)); refine blk_put (cs := #[.int .i64 t1050, .int .i64 0]) ?_ 1 _ rfl; (with_reducible repeat (first | refine blk_drewN ?_ _ | refine blk_drew ?_ | refine blk_alloc ?_ _)); refine blk_put (cs := #[.int .i64 0, .int .i64 0]) ?_ 0 _ rfl; (with_reducible repeat (first | refine blk_drewN ?_ _ | refine blk_drew ?_ | refine blk_alloc ?_ _)); refine blk_far ?_ NB1049_1053.out _; (with_reducible repeat (first | refine blk_drewN ?_ _ | refine blk_drew ?_ | refine blk_alloc ?_ _)); exact BK1049.out) Try.underlying42 rfl (by kernel_rfl)) rfl ?_
    exact ⟨by first | rfl | (simp [errW_none, errW_some] <;> rfl) | (simp [*, errW_none, errW_some] <;> rfl), by repeat (first | (with_reducible first | exact HI0.out | apply IsS83.alloc | apply IsS83.drewN | apply IsS83.drew | apply IsS83.set_1 | refine IsS83.far ?_ NB0_1049.out _ | refine IsS83.far ?_ NB0_1053.out _) | exact HI0.out), by repeat (first | (with_reducible first | exact HB.out | apply below_alloc | apply pw_below_drewN | apply below_drew1 | refine below_set ?_ (IsS83.ge HI0.out) | refine below_set ?_ GE1049.out | refine below_set ?_ GE1053.out) | exact HB.out), by repeat (first | (with_reducible first | exact HK.out | apply KeepBut.set_ | apply keep_drewN | apply keep_drew | apply keep_alloc | refine keep_far ?_ GW1049.out _ | refine keep_far ?_ GW1053.out _) | exact HK.out)⟩
   ·rw [if_neg c26] at H
    have c26b0 : (t1054 == 2) = false := beq_eq_false_iff_ne.mpr c26
    have c26b1 : (t1054 != 2) = true := bne_iff_ne.mpr c26
    by_cases c37 : t1054 = 3
    ·rw [if_pos c37] at H
     have c37b0 : (t1054 == 3) = true := beq_iff_eq.mpr c37
     have c37b1 : (t1054 != 3) = false := bne_eq_false_iff_eq.mpr c37
     clear c37
     simp only [Option.some.injEq, Prod.mk.injEq] at H
     obtain ⟨rfl, rfl, rfl⟩ := H
     go_enter Try.func65, Try.ntmps65
     go_wp2_with (first | ((with_reducible refine gate_dst (N := 2) rfl ?_); refine box_event ?hg (N := 2) ?hd (cs := #[.int .i64 0, .int .i64 0]) (t := 42) ?hr ?_; (case hd => rfl); (case hg => rfl); (case hr => first | (go_simp; done) | (go_simp; rfl)); intro gb1049 hg w38 hbox hb; have n0_ := Ak (IsS83.below (by repeat (first | (with_reducible first | exact HI0.out | apply IsS83.alloc | apply IsS83.drewN | apply IsS83.drew | apply IsS83.set_1) | exact HI0.out)) hb); have n1_ := Ak (KeepBut.trans (by repeat (first | (with_reducible first | exact HK.out | apply KeepBut.set_ | apply keep_drewN | apply keep_drew | apply keep_alloc) | exact HK.out)) (KeepBut.of_below hb g none) (.inl rfl)); have n2_ := Ak (below_step (by repeat (first | (with_reducible first | exact HB.out | apply below_alloc | apply pw_below_drewN | apply below_drew1 | refine below_set ?_ (IsS83.ge HI0.out)) | exact HB.out)) hb); have n3_ := Ak (hbox); have n4_ := Ak ((by rw [hg]; exact (keep_size (w := w) (g := g) (row := none) (by repeat (first | (with_reducible first | exact HK.out | apply KeepBut.set_ | apply keep_drewN | apply keep_drew | apply keep_alloc) | exact HK.out))) : w.heap.size ≤ gb1049)); have n5_ := Ak ((Nat.le_trans HW0.out (by rw [hg]; exact (keep_size (w := w) (g := g) (row := none) (by repeat (first | (with_reducible first | exact HK.out | apply KeepBut.set_ | apply keep_drewN | apply keep_drew | apply keep_alloc) | exact HK.out))) : w.heap.size ≤ gb1049) : w0.heap.size ≤ gb1049)); have n6_ := Ak ((by rw [hg]; exact Nat.ne_of_lt (IsS83.lt (show IsS83 w0 _ g s0_0 s0_1 from by repeat (first | (with_reducible first | exact HI0.out | apply IsS83.alloc | apply IsS83.drewN | apply IsS83.drew | apply IsS83.set_1) | exact HI0.out))) : g ≠ gb1049)); have n7_ := Ak ((by rw [hg]; exact Nat.ne_of_gt (IsS83.lt (show IsS83 w0 _ g s0_0 s0_1 from by repeat (first | (with_reducible first | exact HI0.out | apply IsS83.alloc | apply IsS83.drewN | apply IsS83.drew | apply IsS83.set_1) | exact HI0.out))) : gb1049 ≠ g)); clear HI0; clear HK; clear HB; have HI0 := n0_; have HK := n1_; have HB := n2_; have BK1049 := n3_; have GW1049 := n4_; have GE1049 := n5_; have NB0_1049 := n6_; have NB1049_0 := n7_; clear n0_ n1_ n2_ n3_ n4_ n5_ n6_ n7_; clear hb hbox hg) | ((with_reducible refine gate_callee (f := 77) rfl ?_); refine goesL_ (some 5) rfl rfl Try.func77 (by kernel_rfl) rfl #[.pointer (some ⟨g, 0, none⟩)] rfl (by (try simp only [List.map_toArray, List.map_cons, List.map_nil]); first | done | rfl | (simp only [List.length_drop, List.length_take]; rfl)) ?_; (with_reducible refine (spec_l1Span.calls k g s0_0 s0_1 t1050 t1051 t1052 w0 _ ?side1 ?side2 A2.out).mono ?_); (case side1 => repeat (first | (with_reducible first | exact HI0.out | apply IsS83.alloc | apply IsS83.drewN | apply IsS83.drew | apply IsS83.set_1 | refine IsS83.far ?_ NB0_1049.out _) | exact HI0.out)); (case side2 => repeat (first | (with_reducible first | exact HB.out | apply below_alloc | apply pw_below_drewN | apply below_drew1 | refine below_set ?_ (IsS83.ge HI0.out) | refine below_set ?_ GE1049.out) | exact HB.out)); rintro e w39 ⟨rfl, hi, hb, hk⟩; refine ⟨_, rfl, ?_⟩; have n0_ := Ak (KeepBut.blk hk (g' := gb1049) (o := .cells #[.int .i64 0, .int .i64 0] 42 (0, 0)) (by (with_reducible repeat (first | refine blk_drewN ?_ _ | refine blk_drew ?_ | refine blk_alloc ?_ _)); exact BK1049.out) NB1049_0.out (by simp)); have n1_ := Ak (KeepBut.trans (by repeat (first | (with_reducible first | exact HK.out | apply KeepBut.set_ | apply keep_drewN | apply keep_drew | apply keep_alloc | refine keep_far ?_ GW1049.out _) | exact HK.out)) hk (.inl rfl)); have n2_ := Ak (hb); have n3_ := Ak (hi); clear BK1049; clear HK; clear HB; clear HI0; have BK1049 := n0_; have HK := n1_; have HB := n2_; have HI0 := n3_; clear n0_ n1_ n2_ n3_; (try clear hb); (try clear hb2); (try clear hk); (try clear hi)) | ((with_reducible refine gate_dst (N := 3) rfl ?_); refine box_event ?hg (N := 3) ?hd (cs := #[.int .i64 0, .int .i64 0]) (t := 42) ?hr ?_; (case hd => rfl); (case hg => rfl); (case hr => first | (go_simp; done) | (go_simp; rfl)); intro gb1053 hg w40 hbox hb; have n0_ := Ak (IsS83.below (by repeat (first | (with_reducible first | exact HI0.out | apply IsS83.alloc | apply IsS83.drewN | apply IsS83.drew | apply IsS83.set_1 | refine IsS83.far ?_ NB0_1049.out _) | exact HI0.out)) hb); have n1_ := Ak (blk_below (g := gb1049) (o := .cells #[.int .i64 0, .int .i64 0] 42 (0, 0)) (by (with_reducible repeat (first | refine blk_drewN ?_ _ | refine blk_drew ?_ | refine blk_alloc ?_ _)); exact BK1049.out) hb); have n2_ := Ak (KeepBut.trans (by repeat (first | (with_reducible first | exact HK.out | apply KeepBut.set_ | apply keep_drewN | apply keep_drew | apply keep_alloc | refine keep_far ?_ GW1049.out _) | exact HK.out)) (KeepBut.of_below hb g none) (.inl rfl)); have n3_ := Ak (below_step (by repeat (first | (with_reducible first | exact HB.out | apply below_alloc | apply pw_below_drewN | apply below_drew1 | refine below_set ?_ (IsS83.ge HI0.out) | refine below_set ?_ GE1049.out) | exact HB.out)) hb); have n4_ := Ak (hbox); have n5_ := Ak ((by rw [hg]; exact (keep_size (w := w) (g := g) (row := none) (by repeat (first | (with_reducible first | exact HK.out | apply KeepBut.set_ | apply keep_drewN | apply keep_drew | apply keep_alloc | refine keep_far ?_ GW1049.out _) | exact HK.out))) : w.heap.size ≤ gb1053)); have n6_ := Ak ((Nat.le_trans HW0.out (by rw [hg]; exact (keep_size (w := w) (g := g) (row := none) (by repeat (first | (with_reducible first | exact HK.out | apply KeepBut.set_ | apply keep_drewN | apply keep_drew | apply keep_alloc | refine keep_far ?_ GW1049.out _) | exact HK.out))) : w.heap.size ≤ gb1053) : w0.heap.size ≤ gb1053)); have n7_ := Ak ((by rw [hg]; exact Nat.ne_of_lt (blk_lt (g := gb1049) (o := .cells #[.int .i64 0, .int .i64 0] 42 (0, 0)) (by (with_reducible repeat (first | refine blk_drewN ?_ _ | refine blk_drew ?_ | refine blk_alloc ?_ _)); exact BK1049.out)) : gb1049 ≠ gb1053)); have n8_ := Ak ((by rw [hg]; exact Nat.ne_of_gt (blk_lt (g := gb1049) (o := .cells #[.int .i64 0, .int .i64 0] 42 (0, 0)) (by (with_reducible repeat (first | refine blk_drewN ?_ _ | refine blk_drew ?_ | refine blk_alloc ?_ _)); exact BK1049.out)) : gb1053 ≠ gb1049)); have n9_ := Ak ((by rw [hg]; exact Nat.ne_of_lt (IsS83.lt (show IsS83 w0 _ g s0_0 t1052 from by repeat (first | (with_reducible first | exact HI0.out | apply IsS83.alloc | apply IsS83.drewN | apply IsS83.drew | apply IsS83.set_1 | refine IsS83.far ?_ NB0_1049.out _) | exact HI0.out))) : g ≠ gb1053)); have n10_ := Ak ((by rw [hg]; exact Nat.ne_of_gt (IsS83.lt (show IsS83 w0 _ g s0_0 t1052 from by repeat (first | (with_reducible first | exact HI0.out | apply IsS83.alloc | apply IsS83.drewN | apply IsS83.drew | apply IsS83.set_1 | refine IsS83.far ?_ NB0_1049.out _) | exact HI0.out))) : gb1053 ≠ g)); clear HI0; clear BK1049; clear HK; clear HB; have HI0 := n0_; have BK1049 := n1_; have HK := n2_; have HB := n3_; have BK1053 := n4_; have GW1053 := n5_; have GE1053 := n6_; have NB1049_1053 := n7_; have NB1053_1049 := n8_; have NB0_1053 := n9_; have NB1053_0 := n10_; clear n0_ n1_ n2_ n3_ n4_ n5_ n6_ n7_ n8_ n9_ n10_; clear hb hbox hg; have hnb41 := NB1053_1049.out; have hnc41 := NB1049_1053.out; have hnb42 := NB1053_0.out; have hnc42 := NB0_1053.out; have hcz43_0 : w40.cell? ⟨gb1053, 0, none⟩ = some (.int .i64 0) := (blk_cell BK1053.out 0).trans rfl; have hcz43_1 : w40.cell? ⟨gb1053, 1, none⟩ = some (.int .i64 0) := (blk_cell BK1053.out 1).trans rfl; have hfz43_0 := blk_frozen BK1053.out 0; have hfz43_1 := blk_frozen BK1053.out 1) | ((with_reducible refine gate_callee (f := 60) rfl ?_); refine goesL_ (some 7) rfl rfl Try.func60 (by kernel_rfl) rfl #[.pointer (some ⟨g, 0, none⟩), .int .i64 48] rfl (by (try simp only [List.map_toArray, List.map_cons, List.map_nil]); first | done | rfl | (simp only [List.length_drop, List.length_take]; rfl)) ?_; (with_reducible refine (spec_l10Rd_pick.calls k g s0_0 t1052 48 t1054 t1055 w0 _ ?side1 ?side2 A3.out).mono ?_); (case side1 => repeat (first | (with_reducible first | exact HI0.out | apply IsS83.alloc | apply IsS83.drewN | apply IsS83.drew | apply IsS83.set_1 | refine IsS83.far ?_ NB0_1049.out _ | refine IsS83.far ?_ NB0_1053.out _) | exact HI0.out)); (case side2 => repeat (first | (with_reducible first | exact HB.out | apply below_alloc | apply pw_below_drewN | apply below_drew1 | refine below_set ?_ (IsS83.ge HI0.out) | refine below_set ?_ GE1049.out | refine below_set ?_ GE1053.out) | exact HB.out)); rintro e w44 ⟨rfl, hi, hb, hk⟩; refine ⟨_, rfl, ?_⟩; have n0_ := Ak (KeepBut.blk hk (g' := gb1049) (o := .cells #[.int .i64 0, .int .i64 0] 42 (0, 0)) (by (with_reducible repeat (first | refine blk_drewN ?_ _ | refine blk_drew ?_ | refine blk_alloc ?_ _)); refine blk_far ?_ NB1049_1053.out _; (with_reducible repeat (first | refine blk_drewN ?_ _ | refine blk_drew ?_ | refine blk_alloc ?_ _)); refine blk_far ?_ NB1049_1053.out _; (with_reducible repeat (first | refine blk_drewN ?_ _ | refine blk_drew ?_ | refine blk_alloc ?_ _)); exact BK1049.out) NB1049_0.out (by simp)); have n1_ := Ak (KeepBut.blk hk (g' := gb1053) (o := .cells #[.int .i64 t1050, .int .i64 t1051] 42 (0, 0)) (by (with_reducible repeat (first | refine blk_drewN ?_ _ | refine blk_drew ?_ | refine blk_alloc ?_ _)); refine blk_put (cs := #[.int .i64 t1050, .int .i64 0]) ?_ 1 _ rfl; (with_reducible repeat (first | refine blk_drewN ?_ _ | refine blk_drew ?_ | refine blk_alloc ?_ _)); refine blk_put (cs := #[.int .i64 0, .int .i64 0]) ?_ 0 _ rfl; (with_reducible repeat (first | refine blk_drewN ?_ _ | refine blk_drew ?_ | refine blk_alloc ?_ _)); exact BK1053.out) NB1053_0.out (by simp)); have n2_ := Ak (KeepBut.trans (by repeat (first | (with_reducible first | exact HK.out | apply KeepBut.set_ | apply keep_drewN | apply keep_drew | apply keep_alloc | refine keep_far ?_ GW1049.out _ | refine keep_far ?_ GW1053.out _) | exact HK.out)) hk (.inl rfl)); have n3_ := Ak (hb); have n4_ := Ak (hi); clear BK1049; clear BK1053; clear HK; clear HB; clear HI0; have BK1049 := n0_; have BK1053 := n1_; have HK := n2_; have HB := n3_; have HI0 := n4_; clear n0_ n1_ n2_ n3_ n4_; (try clear hb); (try clear hb2); (try clear hk); (try clear hi); have hnb45 := NB1049_0.out; have hnc45 := NB0_1049.out; have hcz46_0 : w44.cell? ⟨gb1049, 0, none⟩ = some (.int .i64 0) := (blk_cell BK1049.out 0).trans rfl; have hcz46_1 : w44.cell? ⟨gb1049, 1, none⟩ = some (.int .i64 0) := (blk_cell BK1049.out 1).trans rfl; have hfz46_0 := blk_frozen BK1049.out 0; have hfz46_1 := blk_frozen BK1049.out 1))
     refine bodyPost_ret (results_cell_row rfl _ _ gb1049 42 #[.int .i64 9223372036854775807, .int .i64 (-9223372036854775808)] (0, 0) _ rfl (by (with_reducible repeat (first | refine blk_drewN ?_ _ | refine blk_drew ?_ | refine blk_alloc ?_ _)); refine blk_put (cs := #[.int .i64 9223372036854775807, .int .i64 0]) ?_ 1 _ rfl; (with_reducible repeat (first | refine blk_drewN ?_ _ | refine blk_drew ?_ | refine blk_alloc ?_ _)); refine blk_put (cs := #[.int .i64 0, .int .i64 0]) ?_ 0 _ rfl; (with_reducible repeat (first | refine blk_drewN ?_ _ | refine blk_drew ?_ | refine blk_alloc ?_ _)); exact BK1049.out) Try.underlying42 rfl (by kernel_rfl)) rfl ?_
     exact ⟨by first | rfl | (simp [errW_none, errW_some] <;> rfl) | (simp [*, errW_none, errW_some] <;> rfl), by repeat (first | (with_reducible first | exact HI0.out | apply IsS83.alloc | apply IsS83.drewN | apply IsS83.drew | apply IsS83.set_1 | refine IsS83.far ?_ NB0_1049.out _ | refine IsS83.far ?_ NB0_1053.out _) | exact HI0.out), by repeat (first | (with_reducible first | exact HB.out | apply below_alloc | apply pw_below_drewN | apply below_drew1 | refine below_set ?_ (IsS83.ge HI0.out) | refine below_set ?_ GE1049.out | refine below_set ?_ GE1053.out) | exact HB.out), by repeat (first | (with_reducible first | exact HK.out | apply KeepBut.set_ | apply keep_drewN | apply keep_drew | apply keep_alloc | refine keep_far ?_ GW1049.out _ | refine keep_far ?_ GW1053.out _) | exact HK.out)⟩
    ·rw [if_neg c37] at H
     have c37b0 : (t1054 == 3) = false := beq_eq_false_iff_ne.mpr c37
     have c37b1 : (t1054 != 3) = true := bne_iff_ne.mpr c37
     simp only [Option.some.injEq, Prod.mk.injEq] at H
     obtain ⟨rfl, rfl, rfl⟩ := H
     go_enter Try.func65, Try.ntmps65
     go_wp2_with (first | ((with_reducible refine gate_dst (N := 2) rfl ?_); refine box_event ?hg (N := 2) ?hd (cs := #[.int .i64 0, .int .i64 0]) (t := 42) ?hr ?_; (case hd => rfl); (case hg => rfl); (case hr => first | (go_simp; done) | (go_simp; rfl)); intro gb1049 hg w47 hbox hb; have n0_ := Ak (IsS83.below (by repeat (first | (with_reducible first | exact HI0.out | apply IsS83.alloc | apply IsS83.drewN | apply IsS83.drew | apply IsS83.set_1) | exact HI0.out)) hb); have n1_ := Ak (KeepBut.trans (by repeat (first | (with_reducible first | exact HK.out | apply KeepBut.set_ | apply keep_drewN | apply keep_drew | apply keep_alloc) | exact HK.out)) (KeepBut.of_below hb g none) (.inl rfl)); have n2_ := Ak (below_step (by repeat (first | (with_reducible first | exact HB.out | apply below_alloc | apply pw_below_drewN | apply below_drew1 | refine below_set ?_ (IsS83.ge HI0.out)) | exact HB.out)) hb); have n3_ := Ak (hbox); have n4_ := Ak ((by rw [hg]; exact (keep_size (w := w) (g := g) (row := none) (by repeat (first | (with_reducible first | exact HK.out | apply KeepBut.set_ | apply keep_drewN | apply keep_drew | apply keep_alloc) | exact HK.out))) : w.heap.size ≤ gb1049)); have n5_ := Ak ((Nat.le_trans HW0.out (by rw [hg]; exact (keep_size (w := w) (g := g) (row := none) (by repeat (first | (with_reducible first | exact HK.out | apply KeepBut.set_ | apply keep_drewN | apply keep_drew | apply keep_alloc) | exact HK.out))) : w.heap.size ≤ gb1049) : w0.heap.size ≤ gb1049)); have n6_ := Ak ((by rw [hg]; exact Nat.ne_of_lt (IsS83.lt (show IsS83 w0 _ g s0_0 s0_1 from by repeat (first | (with_reducible first | exact HI0.out | apply IsS83.alloc | apply IsS83.drewN | apply IsS83.drew | apply IsS83.set_1) | exact HI0.out))) : g ≠ gb1049)); have n7_ := Ak ((by rw [hg]; exact Nat.ne_of_gt (IsS83.lt (show IsS83 w0 _ g s0_0 s0_1 from by repeat (first | (with_reducible first | exact HI0.out | apply IsS83.alloc | apply IsS83.drewN | apply IsS83.drew | apply IsS83.set_1) | exact HI0.out))) : gb1049 ≠ g)); clear HI0; clear HK; clear HB; have HI0 := n0_; have HK := n1_; have HB := n2_; have BK1049 := n3_; have GW1049 := n4_; have GE1049 := n5_; have NB0_1049 := n6_; have NB1049_0 := n7_; clear n0_ n1_ n2_ n3_ n4_ n5_ n6_ n7_; clear hb hbox hg) | ((with_reducible refine gate_callee (f := 77) rfl ?_); refine goesL_ (some 5) rfl rfl Try.func77 (by kernel_rfl) rfl #[.pointer (some ⟨g, 0, none⟩)] rfl (by (try simp only [List.map_toArray, List.map_cons, List.map_nil]); first | done | rfl | (simp only [List.length_drop, List.length_take]; rfl)) ?_; (with_reducible refine (spec_l1Span.calls k g s0_0 s0_1 t1050 t1051 t1052 w0 _ ?side1 ?side2 A2.out).mono ?_); (case side1 => repeat (first | (with_reducible first | exact HI0.out | apply IsS83.alloc | apply IsS83.drewN | apply IsS83.drew | apply IsS83.set_1 | refine IsS83.far ?_ NB0_1049.out _) | exact HI0.out)); (case side2 => repeat (first | (with_reducible first | exact HB.out | apply below_alloc | apply pw_below_drewN | apply below_drew1 | refine below_set ?_ (IsS83.ge HI0.out) | refine below_set ?_ GE1049.out) | exact HB.out)); rintro e w48 ⟨rfl, hi, hb, hk⟩; refine ⟨_, rfl, ?_⟩; have n0_ := Ak (KeepBut.blk hk (g' := gb1049) (o := .cells #[.int .i64 0, .int .i64 0] 42 (0, 0)) (by (with_reducible repeat (first | refine blk_drewN ?_ _ | refine blk_drew ?_ | refine blk_alloc ?_ _)); exact BK1049.out) NB1049_0.out (by simp)); have n1_ := Ak (KeepBut.trans (by repeat (first | (with_reducible first | exact HK.out | apply KeepBut.set_ | apply keep_drewN | apply keep_drew | apply keep_alloc | refine keep_far ?_ GW1049.out _) | exact HK.out)) hk (.inl rfl)); have n2_ := Ak (hb); have n3_ := Ak (hi); clear BK1049; clear HK; clear HB; clear HI0; have BK1049 := n0_; have HK := n1_; have HB := n2_; have HI0 := n3_; clear n0_ n1_ n2_ n3_; (try clear hb); (try clear hb2); (try clear hk); (try clear hi)) | ((with_reducible refine gate_dst (N := 3) rfl ?_); refine box_event ?hg (N := 3) ?hd (cs := #[.int .i64 0, .int .i64 0]) (t := 42) ?hr ?_; (case hd => rfl); (case hg => rfl); (case hr => first | (go_simp; done) | (go_simp; rfl)); intro gb1053 hg w49 hbox hb; have n0_ := Ak (IsS83.below (by repeat (first | (with_reducible first | exact HI0.out | apply IsS83.alloc | apply IsS83.drewN | apply IsS83.drew | apply IsS83.set_1 | refine IsS83.far ?_ NB0_1049.out _) | exact HI0.out)) hb); have n1_ := Ak (blk_below (g := gb1049) (o := .cells #[.int .i64 0, .int .i64 0] 42 (0, 0)) (by (with_reducible repeat (first | refine blk_drewN ?_ _ | refine blk_drew ?_ | refine blk_alloc ?_ _)); exact BK1049.out) hb); have n2_ := Ak (KeepBut.trans (by repeat (first | (with_reducible first | exact HK.out | apply KeepBut.set_ | apply keep_drewN | apply keep_drew | apply keep_alloc | refine keep_far ?_ GW1049.out _) | exact HK.out)) (KeepBut.of_below hb g none) (.inl rfl)); have n3_ := Ak (below_step (by repeat (first | (with_reducible first | exact HB.out | apply below_alloc | apply pw_below_drewN | apply below_drew1 | refine below_set ?_ (IsS83.ge HI0.out) | refine below_set ?_ GE1049.out) | exact HB.out)) hb); have n4_ := Ak (hbox); have n5_ := Ak ((by rw [hg]; exact (keep_size (w := w) (g := g) (row := none) (by repeat (first | (with_reducible first | exact HK.out | apply KeepBut.set_ | apply keep_drewN | apply keep_drew | apply keep_alloc | refine keep_far ?_ GW1049.out _) | exact HK.out))) : w.heap.size ≤ gb1053)); have n6_ := Ak ((Nat.le_trans HW0.out (by rw [hg]; exact (keep_size (w := w) (g := g) (row := none) (by repeat (first | (with_reducible first | exact HK.out | apply KeepBut.set_ | apply keep_drewN | apply keep_drew | apply keep_alloc | refine keep_far ?_ GW1049.out _) | exact HK.out))) : w.heap.size ≤ gb1053) : w0.heap.size ≤ gb1053)); have n7_ := Ak ((by rw [hg]; exact Nat.ne_of_lt (blk_lt (g := gb1049) (o := .cells #[.int .i64 0, .int .i64 0] 42 (0, 0)) (by (with_reducible repeat (first | refine blk_drewN ?_ _ | refine blk_drew ?_ | refine blk_alloc ?_ _)); exact BK1049.out)) : gb1049 ≠ gb1053)); have n8_ := Ak ((by rw [hg]; exact Nat.ne_of_gt (blk_lt (g := gb1049) (o := .cells #[.int .i64 0, .int .i64 0] 42 (0, 0)) (by (with_reducible repeat (first | refine blk_drewN ?_ _ | refine blk_drew ?_ | refine blk_alloc ?_ _)); exact BK1049.out)) : gb1053 ≠ gb1049)); have n9_ := Ak ((by rw [hg]; exact Nat.ne_of_lt (IsS83.lt (show IsS83 w0 _ g s0_0 t1052 from by repeat (first | (with_reducible first | exact HI0.out | apply IsS83.alloc | apply IsS83.drewN | apply IsS83.drew | apply IsS83.set_1 | refine IsS83.far ?_ NB0_1049.out _) | exact HI0.out))) : g ≠ gb1053)); have n10_ := Ak ((by rw [hg]; exact Nat.ne_of_gt (IsS83.lt (show IsS83 w0 _ g s0_0 t1052 from by repeat (first | (with_reducible first | exact HI0.out | apply IsS83.alloc | apply IsS83.drewN | apply IsS83.drew | apply IsS83.set_1 | refine IsS83.far ?_ NB0_1049.out _) | exact HI0.out))) : gb1053 ≠ g)); clear HI0; clear BK1049; clear HK; clear HB; have HI0 := n0_; have BK1049 := n1_; have HK := n2_; have HB := n3_; have BK1053 := n4_; have GW1053 := n5_; have GE1053 := n6_; have NB1049_1053 := n7_; have NB1053_1049 := n8_; have NB0_1053 := n9_; have NB1053_0 := n10_; clear n0_ n1_ n2_ n3_ n4_ n5_ n6_ n7_ n8_ n9_ n10_; clear hb hbox hg; have hnb50 := NB1053_1049.out; have hnc50 := NB1049_1053.out; have hnb51 := NB1053_0.out; have hnc51 := NB0_1053.out; have hcz52_0 : w49.cell? ⟨gb1053, 0, none⟩ = some (.int .i64 0) := (blk_cell BK1053.out 0).trans rfl; have hcz52_1 : w49.cell? ⟨gb1053, 1, none⟩ = some (.int .i64 0) := (blk_cell BK1053.out 1).trans rfl; have hfz52_0 := blk_frozen BK1053.out 0; have hfz52_1 := blk_frozen BK1053.out 1) | ((with_reducible refine gate_callee (f := 60) rfl ?_); refine goesL_ (some 7) rfl rfl Try.func60 (by kernel_rfl) rfl #[.pointer (some ⟨g, 0, none⟩), .int .i64 48] rfl (by (try simp only [List.map_toArray, List.map_cons, List.map_nil]); first | done | rfl | (simp only [List.length_drop, List.length_take]; rfl)) ?_; (with_reducible refine (spec_l10Rd_pick.calls k g s0_0 t1052 48 t1054 t1055 w0 _ ?side1 ?side2 A3.out).mono ?_); (case side1 => repeat (first | (with_reducible first | exact HI0.out | apply IsS83.alloc | apply IsS83.drewN | apply IsS83.drew | apply IsS83.set_1 | refine IsS83.far ?_ NB0_1049.out _ | refine IsS83.far ?_ NB0_1053.out _) | exact HI0.out)); (case side2 => repeat (first | (with_reducible first | exact HB.out | apply below_alloc | apply pw_below_drewN | apply below_drew1 | refine below_set ?_ (IsS83.ge HI0.out) | refine below_set ?_ GE1049.out | refine below_set ?_ GE1053.out) | exact HB.out)); rintro e w53 ⟨rfl, hi, hb, hk⟩; refine ⟨_, rfl, ?_⟩; have n0_ := Ak (KeepBut.blk hk (g' := gb1049) (o := .cells #[.int .i64 0, .int .i64 0] 42 (0, 0)) (by (with_reducible repeat (first | refine blk_drewN ?_ _ | refine blk_drew ?_ | refine blk_alloc ?_ _)); refine blk_far ?_ NB1049_1053.out _; (with_reducible repeat (first | refine blk_drewN ?_ _ | refine blk_drew ?_ | refine blk_alloc ?_ _)); refine blk_far ?_ NB1049_1053.out _; (with_reducible repeat (first | refine blk_drewN ?_ _ | refine blk_drew ?_ | refine blk_alloc ?_ _)); exact BK1049.out) NB1049_0.out (by simp)); have n1_ := Ak (KeepBut.blk hk (g' := gb1053) (o := .cells #[.int .i64 t1050, .int .i64 t1051] 42 (0, 0)) (by (with_reducible repeat (first | refine blk_drewN ?_ _ | refine blk_drew ?_ | refine blk_alloc ?_ _)); refine blk_put (cs := #[.int .i64 t1050, .int .i64 0]) ?_ 1 _ rfl; (with_reducible repeat (first | refine blk_drewN ?_ _ | refine blk_drew ?_ | refine blk_alloc ?_ _)); refine blk_put (cs := #[.int .i64 0, .int .i64 0]) ?_ 0 _ rfl; (with_reducible repeat (first | refine blk_drewN ?_ _ | refine blk_drew ?_ | refine blk_alloc ?_ _)); exact BK1053.out) NB1053_0.out (by simp)); have n2_ := Ak (KeepBut.trans (by repeat (first | (with_reducible first | exact HK.out | apply KeepBut.set_ | apply keep_drewN | apply keep_drew | apply keep_alloc | refine keep_far ?_ GW1049.out _ | refine keep_far ?_ GW1053.out _) | exact HK.out)) hk (.inl rfl)); have n3_ := Ak (hb); have n4_ := Ak (hi); clear BK1049; clear BK1053; clear HK; clear HB; clear HI0; have BK1049 := n0_; have BK1053 := n1_; have HK := n2_; have HB := n3_; have HI0 := n4_; clear n0_ n1_ n2_ n3_ n4_; (try clear hb); (try clear hb2); (try clear hk); (try clear hi); have hcz54_0 : w53.cell? ⟨gb1053, 0, none⟩ = some (.int .i64 t1050) := (blk_cell BK1053.out 0).trans rfl; have hcz54_1 : w53.cell? ⟨gb1053, 1, none⟩ = some (.int .i64 t1051) := (blk_cell BK1053.out 1).trans rfl; have hfz54_0 := blk_frozen BK1053.out 0; have hfz54_1 := blk_frozen BK1053.out 1; have hnb55 := NB1049_0.out; have hnc55 := NB0_1049.out; have hcz56_0 : w53.cell? ⟨gb1049, 0, none⟩ = some (.int .i64 0) := (blk_cell BK1049.out 0).trans rfl; have hcz56_1 : w53.cell? ⟨gb1049, 1, none⟩ = some (.int .i64 0) := (blk_cell BK1049.out 1).trans rfl; have hfz56_0 := blk_frozen BK1049.out 0; have hfz56_1 := blk_frozen BK1049.out 1))
     refine bodyPost_ret (results_cell_row rfl _ _ gb1049 42 #[.int .i64 t1050, .int .i64 t1051] (0, 0) _ rfl (by (with_reducible repeat (first | refine blk_drewN ?_ _ | refine blk_drew ?_ | refine blk_alloc ?_ _)); refine blk_put (cs := #[.int .i64 t1050, .int .i64 0]) ?_ 1 _ rfl; (with_reducible repeat (first | refine blk_drewN ?_ _ | refine blk_drew ?_ | refine blk_alloc ?_ _)); refine blk_put (cs := #[.int .i64 0, .int .i64 0]) ?_ 0 _ rfl; (with_reducible repeat (first | refine blk_drewN ?_ _ | refine blk_drew ?_ | refine blk_alloc ?_ _)); exact BK1049.out) Try.underlying42 rfl (by kernel_rfl)) rfl ?_
     exact ⟨by first | rfl | (simp [errW_none, errW_some] <;> rfl) | (simp [*, errW_none, errW_some] <;> rfl), by repeat (first | (with_reducible first | exact HI0.out | apply IsS83.alloc | apply IsS83.drewN | apply IsS83.drew | apply IsS83.set_1 | refine IsS83.far ?_ NB0_1049.out _ | refine IsS83.far ?_ NB0_1053.out _) | exact HI0.out), by repeat (first | (with_reducible first | exact HB.out | apply below_alloc | apply pw_below_drewN | apply below_drew1 | refine below_set ?_ (IsS83.ge HI0.out) | refine below_set ?_ GE1049.out | refine below_set ?_ GE1053.out) | exact HB.out), by repeat (first | (with_reducible first | exact HK.out | apply KeepBut.set_ | apply keep_drewN | apply keep_drew | apply keep_alloc | refine keep_far ?_ GW1049.out _ | refine keep_far ?_ GW1053.out _) | exact HK.out)⟩
end Go.Proofs.Ytmekkapacbdbeaa.P
namespace Go.Proofs.Ytmekkapacbdbeaa.P
open Go.RowKit Go.Proofs.YtmekkapacbdbeaaW.PrintWords Go.Proofs.YtmekkapacbdbeaaW.PrintLast Go.Proofs.YtmekkapacbdbeaaW.PrintMore
theorem num_ev {b : List Int} {p : Int} {l : List Int} (hb : Bytes b) (hp : 0 ≤ p) (hp2 : p ≤ 1000000) (hl : 1 ≤ l.length) : ∃ r, r ∈ l ∧ ∀ k, spec_l10Rd_num.f (k + 1) b p l = some (r, p + 1) := by
 obtain ⟨r, q0, q1, hr⟩ := pick_ev (n := (l.length : Int)) hb hp hp2 (by omega)
 refine ⟨rd l r, ?_, fun k => ?_⟩
 ·unfold Go.Proofs.YtmekkapacbdbeaaW.PrintWords.rd
  rw [List.getD_eq_getElem?_getD, List.getElem?_eq_getElem (by omega)]
  exact List.getElem_mem _
 ·unfold spec_l10Rd_num.f
  rw [hr k, Option.bind_some, if_pos q0, if_pos q1]
theorem mem_small {r : ByteArray} {l : List ByteArray} (h : r ∈ l) (hl : l.all (fun x => decide (x.size ≤ 1000)) = true) : r.size ≤ 9223372036854775807 := by
 have := List.all_eq_true.1 hl r h
 simp only [decide_eq_true_eq] at this
 omega
section
variable {w0 w : World} {g m : Nat}
theorem whoDraw_c (h : Rd w0 w g (m + 2)) (hB : Below w0.heap.size w0 w) :
  Calls Try.prog 70 #[.pointer (some ⟨g, 0, none⟩)] w fun e w' => ∃ r : Int, e = .returned (.int .i64 r) ∧ Rd w0 w' g m ∧ Below w0.heap.size w0 w' ∧ Kept w w' (fun k => g ≤ k ∧ k < g + 1) := by
 obtain ⟨b, p, hI, hb, h0, h1⟩ := h
 obtain ⟨r1, q0, q1, hr1⟩ := pick_ev (n := 20) hb h0 (by omega) (by omega)
 obtain ⟨r2, _, hr2⟩ := num_ev (l := [(-1), 3, 9223372036854775807]) (p := p + 1) hb (by omega) (by omega) (by decide)
 obtain ⟨r3, q4, q5, hr3⟩ := pick_ev (n := 3) (p := p + 1) hb (by omega) (by omega) (by omega)
 have hf : ∃ r, spec_l4WhoDraw.f 1 b p = some (r, p + 1 + 1) := by
  unfold spec_l4WhoDraw.f
  rw [hr1 0, Option.bind_some]
  by_cases h : r1 = 0
  ·exact ⟨r2, by rw [if_pos h, hr2 0]; rfl⟩
  ·exact ⟨r3, by rw [if_neg h, hr3 0]; rfl⟩
 obtain ⟨r, hf⟩ := hf
 exact (spec_l4WhoDraw.calls 1 g b p r (p + 1 + 1) w0 w hI hB hf).mono fun e w' ⟨he, hI', hB', hK⟩ => ⟨r, he, ⟨b, _, hI', hb, by omega, by omega⟩, hB', kept_of hK⟩
theorem l1Some_c (h : Rd w0 w g (m + 3)) (hB : Below w0.heap.size w0 w) :
  Calls Try.prog 65 #[.pointer (some ⟨g, 0, none⟩)] w fun e w' => ∃ lo hi : Int, e = .returned (.agg #[.int .i64 lo, .int .i64 hi]) ∧ Rd w0 w' g m ∧ Below w0.heap.size w0 w' ∧ Kept w w' (fun k => g ≤ k ∧ k < g + 1) := by
 obtain ⟨b, p, hI, hb, h0, h1⟩ := h
 obtain ⟨r1, q0, q1, hr1⟩ := pick_ev (n := 47) hb h0 (by omega) (by omega)
 obtain ⟨r2, _, hr2⟩ := num_ev (l := [0, 1, 3, 5, 9, 20, 47]) (p := p + 1) hb (by omega) (by omega) (by decide)
 obtain ⟨r3, q4, q5, hr3⟩ := pick_ev (n := 48) (p := p + 1 + 1) hb (by omega) (by omega) (by omega)
 have hf : ∃ lo hi, spec_l1Some.f 1 b p = some (lo, hi, p + 1 + 1 + 1) := by
  have hs : ∃ hi, spec_l1Span.f 1 b p = some (r1, hi, p + 1 + 1) := by
   unfold spec_l1Span.f
   rw [hr1 0, Option.bind_some, hr2 0, Option.bind_some]
   unfold spec_l1Min.f
   split
   ·exact ⟨_, rfl⟩
   ·exact ⟨_, rfl⟩
  obtain ⟨hi, hs⟩ := hs
  unfold spec_l1Some.f
  rw [hs, Option.bind_some, hr3 0, Option.bind_some]
  by_cases c0 : r3 = 0
  ·exact ⟨_, _, by rw [if_pos c0]⟩
  by_cases c1 : r3 = 1
  ·exact ⟨_, _, by rw [if_neg c0, if_pos c1]⟩
  by_cases c2 : r3 = 2
  ·exact ⟨_, _, by rw [if_neg c0, if_neg c1, if_pos c2]⟩
  by_cases c3 : r3 = 3
  ·exact ⟨_, _, by rw [if_neg c0, if_neg c1, if_neg c2, if_pos c3]⟩
  ·exact ⟨_, _, by rw [if_neg c0, if_neg c1, if_neg c2, if_neg c3]⟩
 obtain ⟨lo, hi, hf⟩ := hf
 exact (spec_l1Some.calls 1 g b p lo hi _ w0 w hI hB hf).mono fun e w' ⟨he, hI', hB', hK⟩ => ⟨lo, hi, he, ⟨b, _, hI', hb, by omega, by omega⟩, hB', kept_of hK⟩
end
end Go.Proofs.Ytmekkapacbdbeaa.P
namespace Go.Proofs.Ytmekkapacbdbeaa.P
open Go.RowKit Go.Proofs.YtmekkapacbdbeaaW.PrintWords Go.Proofs.YtmekkapacbdbeaaW.PrintLast Go.Proofs.YtmekkapacbdbeaaW.PrintMore
set_option linter.unusedVariables false
set_option linter.unusedSimpArgs false
set_option maxHeartbeats 8000000 in
set_option maxRecDepth 100000 in
theorem l5Ask_c {w0 w : World} {g m : Nat} (hB : Below w0.heap.size w0 w) (hR : Rd w0 w g (m + 20)) {v : Value} {s : St} {lo hi : Nat} (hv : StI w lo hi v s) (hf : g < lo ∨ hi ≤ g) (hhi : hi ≤ w.heap.size) :
  Calls Try.prog 61 #[.pointer (some ⟨g, 0, none⟩), v] w fun e w' => ∃ (who ep num obj at_ : Int) (data : ByteArray), e = .returned (.agg #[.int .i64 who, .int .i64 ep, .int .i64 num, .int .i64 obj, .int .i64 at_, .string data]) ∧ data.size ≤ 9223372036854775807 ∧ Rd w0 w' g m ∧ Below w0.heap.size w0 w' ∧ Kept w w' (fun k => g ≤ k ∧ k < g + 1) := by
 have HB0 := Ak hB
 have HG := Ak hR.lt
 have HG0 := Ak hR.ge
 have HRD := Ak hR
 have KP0 := Ak (Kept.refl w (fun k => g ≤ k ∧ k < g + 1))
 have HT0 := Ak (Nat.le_refl w.heap.size)
 clear hB hR
 have HV0 := Ak hv
 have HF := Ak hf
 have HHI := Ak hhi
 obtain ⟨A0_0, c0_0, A0_1, c0_1, A0_2, c0_2, A0_3, c0_3, A0_4, c0_4, rfl, _⟩ := hv.toC
 clear hv hf hhi
 have hu52 := Try.underlying52
 go_enter Try.func61, Try.ntmps61
 go_wp2_with (first | ((with_reducible refine gate_dst (N := 3) rfl ?_); refine ev_box ?hg (N := 3) ?hd (cs := #[.slice A0_0 s.now.length c0_0, .slice A0_1 s.sure.length c0_1, .slice A0_2 s.last.length c0_2, .slice A0_3 s.slast.length c0_3, .slice A0_4 s.floors.length c0_4]) (t := 26) ?hr ?_; (case hd => rfl); (case hg => rfl); (case hr => first | (go_simp; done) | (go_simp; rfl)); intro g3 W1 HG4 BK2 HB3) | ((with_reducible refine gate_dst (N := 4) rfl ?_); refine ev_box ?hg (N := 4) ?hd (cs := #[.int .i64 0, .int .i64 0, .int .i64 0, .int .i64 0, .int .i64 0, .string ⟨#[]⟩]) (t := 52) ?hr ?_; (case hd => rfl); (case hg => rfl); (case hr => first | (go_simp; done) | (go_simp; rfl)); intro g4 W5 HG8 BK6 HB7))
 refine (pick_c (m := m + 19) (Rd.below HRD.out (below_step HB3.out HB7.out)) (below_step HB0.out (below_step HB3.out HB7.out)) (by omega)).mono ?_
 rintro e W15 ⟨r9, rfl, h10, h11, hR12, hb16, hk13⟩
 have z0_ := HB0.out.size
 have z1_ := HG.out
 have z2_ := HG0.out
 have z3_ := HF.out
 have z4_ := HHI.out
 have z5_ := HT0.out
 have z6_ := HB3.out.size
 have z7_ := HG4.out
 have z8_ := BK2.out.lt
 have z9_ := HB7.out.size
 have z10_ := HG8.out
 have z11_ := BK6.out.lt
 have C18 := Ak (show w.heap.size ≤ g3 ∧ g3 ≤ g3 + 1 from (by omega))
 have C19 := Ak (show g3 + 1 ≤ g4 ∧ g4 ≤ g4 + 1 from (by omega))
 have T20 := Ak (show g4 + 1 ≤ W5.heap.size from (by omega))
 have N21 := Ak (show ∀ k_, (g ≤ k_ ∧ k_ < g + 1) → k_ < lo ∨ hi ≤ k_ from (by intro k_ h_; omega))
 have N22 := Ak (show ¬ (g ≤ g3 ∧ g3 < g + 1) from (by omega))
 have N23 := Ak (show ¬ (g ≤ g4 ∧ g4 < g + 1) from (by omega))
 have HB24 := Ak (hb16)
 have HK25 := Ak (hk13)
 have KP27 := Ak (Kept.then_ (Kept.below KP0.out (below_step HB3.out HB7.out)) HK25.out (fun _ h_ => Or.inl h_))
 have T26 := Ak (Nat.le_trans T20.out HK25.out.1)
 have F28 := Ak (StI.kept (StI.below HV0.out (below_step HB3.out HB7.out)) HK25.out N21.out)
 have F29 := Ak (Bk.kept (Bk.below BK2.out HB7.out) HK25.out N22.out)
 have F30 := Ak (Bk.kept BK6.out HK25.out N23.out)
 have F31 := Ak (hR12)
 clear z0_ z1_ z2_ z3_ z4_ z5_ z6_ z7_ z8_ z9_ z10_ z11_ hb16 hk13 hR12
 have HP14 := Ak (And.intro h10 h11)
 clear h10 h11
 go_wp2_with (fail)
 refine (pick_c (m := m + 18) F31.out HB24.out (by omega)).mono ?_
 rintro e W38 ⟨r32, rfl, h33, h34, hR35, hb39, hk36⟩
 have HB41 := Ak (hb39)
 have HK42 := Ak (hk36)
 have KP44 := Ak (Kept.then_ KP27.out HK42.out (fun _ h_ => Or.inl h_))
 have T43 := Ak (Nat.le_trans T26.out HK42.out.1)
 have F45 := Ak (StI.kept F28.out HK42.out N21.out)
 have F46 := Ak (Bk.kept F29.out HK42.out N22.out)
 have F47 := Ak (Bk.kept F30.out HK42.out N23.out)
 have F48 := Ak (hR35)
 clear hb39 hk36 hR35
 have HP37 := Ak (And.intro h33 h34)
 clear h33 h34
 go_wp2_with (fail)
 refine (pick_c (m := m + 17) F48.out HB41.out (by omega)).mono ?_
 rintro e W55 ⟨r49, rfl, h50, h51, hR52, hb56, hk53⟩
 have HB58 := Ak (hb56)
 have HK59 := Ak (hk53)
 have KP61 := Ak (Kept.then_ KP44.out HK59.out (fun _ h_ => Or.inl h_))
 have T60 := Ak (Nat.le_trans T43.out HK59.out.1)
 have F62 := Ak (StI.kept F45.out HK59.out N21.out)
 have F63 := Ak (Bk.kept F46.out HK59.out N22.out)
 have F64 := Ak (Bk.kept F47.out HK59.out N23.out)
 have F65 := Ak (hR52)
 clear hb56 hk53 hR52
 have HP54 := Ak (And.intro h50 h51)
 clear h50 h51
 go_wp2_with (fail)
 refine (pick_c (m := m + 16) F65.out HB58.out (by omega)).mono ?_
 rintro e W72 ⟨r66, rfl, h67, h68, hR69, hb73, hk70⟩
 have HB75 := Ak (hb73)
 have HK76 := Ak (hk70)
 have KP78 := Ak (Kept.then_ KP61.out HK76.out (fun _ h_ => Or.inl h_))
 have T77 := Ak (Nat.le_trans T60.out HK76.out.1)
 have F79 := Ak (StI.kept F62.out HK76.out N21.out)
 have F80 := Ak (Bk.kept F63.out HK76.out N22.out)
 have F81 := Ak (Bk.kept F64.out HK76.out N23.out)
 have F82 := Ak (hR69)
 clear hb73 hk70 hR69
 have HP71 := Ak (And.intro h67 h68)
 clear h67 h68
 go_wp2_with (first | ((with_reducible refine gate_dst (N := 17) rfl ?_); refine ev_lit Kd.string 9 ?hg (N := 17) ?hd (xs := ([(⟨#[120]⟩ : ByteArray), (⟨#[97, 98]⟩ : ByteArray), (⟨#[113, 55, 46]⟩ : ByteArray), (⟨#[109, 110, 111, 112]⟩ : ByteArray)] : List ByteArray)) (inner := [.string ⟨#[120]⟩, .string ⟨#[97, 98]⟩, .string ⟨#[113, 55, 46]⟩, .string ⟨#[109, 110, 111, 112]⟩]) ?hr (reps_str ([(⟨#[120]⟩ : ByteArray), (⟨#[97, 98]⟩ : ByteArray), (⟨#[113, 55, 46]⟩ : ByteArray), (⟨#[109, 110, 111, 112]⟩ : ByteArray)] : List ByteArray)) (by simp) ?_; (case hd => rfl); (case hg => rfl); (case hr => first | (go_simp; done) | (go_simp; rfl)); intro A83 c84 W86 HL85 HB87))
 refine (of_c (m := m + 15) (Rd.below F82.out HB87.out) (below_step HB75.out HB87.out) HL85.out.1 HL85.out.2.1 (fun ad_ e_ h_ => (by have q_ := HL85.out.2.2 ad_ e_ h_; show ad_.block ≠ g; have z0_ := HB0.out.size; have z1_ := HG.out; have z2_ := HG0.out; have z3_ := HF.out; have z4_ := HHI.out; have z5_ := C18.out; have z6_ := C19.out; have z7_ := T77.out; have z8_ := HB87.out.size; omega)) (by decide)).mono ?_
 rintro e W93 ⟨r88, rfl, hm89, hR90, hb94, hk91⟩
 have z0_ := HB0.out.size
 have z1_ := HG.out
 have z2_ := HG0.out
 have z3_ := HF.out
 have z4_ := HHI.out
 have z5_ := C18.out
 have z6_ := C19.out
 have z7_ := T77.out
 have z8_ := HB87.out.size
 have T96 := Ak (show g4 + 1 ≤ W86.heap.size from (by omega))
 have HB97 := Ak (hb94)
 have HK98 := Ak (hk91)
 have KP100 := Ak (Kept.then_ (Kept.below KP78.out HB87.out) HK98.out (fun _ h_ => Or.inl h_))
 have T99 := Ak (Nat.le_trans T96.out HK98.out.1)
 have F101 := Ak (StI.kept (StI.below F79.out HB87.out) HK98.out N21.out)
 have F102 := Ak (Bk.kept (Bk.below F80.out HB87.out) HK98.out N22.out)
 have F103 := Ak (Bk.kept (Bk.below F81.out HB87.out) HK98.out N23.out)
 have F104 := Ak (hR90)
 clear z0_ z1_ z2_ z3_ z4_ z5_ z6_ z7_ z8_ hb94 hk91 hR90
 have HM92 := Ak hm89
 clear hm89
 go_upto_if 23 with (first | ((with_reducible refine gate_dst (N := 6) rfl ?_); refine ev_box ?hg (N := 6) ?hd (cs := #[.int .i64 0, .int .i64 0, .int .i64 0, .int .i64 0, .int .i64 0, .string ⟨#[]⟩]) (t := 52) ?hr ?_; (case hd => rfl); (case hg => rfl); (case hr => first | (go_simp; done) | (go_simp; rfl)); intro g6 W105 HG108 BK106 HB107) | ((with_reducible refine gate_store (t := 52) (p := 6) rfl ?_); refine ev_put (by rfl) rfl rfl (g := g6) rfl (cs := #[.int .i64 r9, .int .i64 r32, .int .i64 1, .int .i64 r49, .int .i64 r66, .string r88]) rfl BK106.out (by kernel_rfl) rfl rfl ?_; intro W109 BK110 HB111 HK112; have z0_ := HB0.out.size; have z1_ := HG.out; have z2_ := HG0.out; have z3_ := HF.out; have z4_ := HHI.out; have z5_ := C18.out; have z6_ := C19.out; have z7_ := T99.out; have z8_ := HB107.out.size; have z9_ := HG108.out; have z10_ := BK106.out.lt; have C113 := Ak (show g4 + 1 ≤ g6 ∧ g6 ≤ g6 + 1 from (by omega)); have T114 := Ak (show g6 + 1 ≤ W105.heap.size from (by omega)); have HB115 := Ak (below_at (below_step HB97.out HB107.out) HB111.out (by show w0.heap.size ≤ g6; omega)); have HK116 := Ak (HK112.out); have KP118 := Ak (kept_new (Kept.below KP100.out HB107.out) HK116.out (by show w.heap.size ≤ g6; omega)); have T117 := Ak (Nat.le_trans T114.out HK116.out.1); have F119 := Ak (StI.kept (StI.below F101.out HB107.out) HK116.out (fun k_ h_ => (by obtain ⟨h1_, h2_⟩ := h_; omega))); have F120 := Ak (Bk.kept (Bk.below F102.out HB107.out) HK116.out (fun h_ => (by obtain ⟨h1_, h2_⟩ := h_; omega))); have F121 := Ak (Bk.kept (Bk.below F103.out HB107.out) HK116.out (fun h_ => (by obtain ⟨h1_, h2_⟩ := h_; omega))); have F122 := Ak (BK110.out); have F123 := Ak (Rd.kept (Rd.below F104.out HB107.out) HK116.out (fun h_ => (by obtain ⟨h1_, h2_⟩ := h_; omega))); clear z0_ z1_ z2_ z3_ z4_ z5_ z6_ z7_ z8_ z9_ z10_) | ((with_reducible refine gate_dst (N := 21) rfl ?_); refine ev_val (by rfl) (v := .slice A0_2 s.last.length c0_2) ?hr ?_; (case hr => have hc_ : W109.cell? ⟨g3, 2, none⟩ = some (.slice A0_2 s.last.length c0_2) := (Bk.cell F120.out 2).trans rfl; first | (go_simp; done) | (go_simp; rfl))))
 go_cut [] (fun W124 => ∃ (n2_ : Int), Aside0 (Bk W124 g3 #[.slice A0_0 s.now.length c0_0, .slice A0_1 s.sure.length c0_1, .slice A0_2 s.last.length c0_2, .slice A0_3 s.slast.length c0_3, .slice A0_4 s.floors.length c0_4] 26) ∧ Aside0 (Bk W124 g4 #[.int .i64 0, .int .i64 0, .int .i64 0, .int .i64 0, .int .i64 0, .string ⟨#[]⟩] 52) ∧ Aside0 (Bk W124 g6 #[.int .i64 r9, .int .i64 r32, .int .i64 n2_, .int .i64 r49, .int .i64 r66, .string r88] 52) ∧ Aside0 (StI W124 lo hi (.agg #[.slice A0_0 s.now.length c0_0, .slice A0_1 s.sure.length c0_1, .slice A0_2 s.last.length c0_2, .slice A0_3 s.slast.length c0_3, .slice A0_4 s.floors.length c0_4]) (s)) ∧ Aside0 (Rd w0 W124 g (m + 14)) ∧ Aside0 (Below w0.heap.size w0 W124) ∧ Aside0 (Kept w W124 (fun k => g ≤ k ∧ k < g + 1)) ∧ Aside0 (g6 + 1 ≤ W124.heap.size))
 case first =>
  by_cases c125 : (s.last.length : Int) = 3
  ·have d126 : ((s.last.length : Int) == 3) = true := beq_iff_eq.mpr c125
   have K127 := Ak c125
   clear c125
   go_upto_region 4 with (fail)
   have HI128 := Ak (show 0 ≤ (r9 : Int) ∧ (r9 : Int) < ((s.last).length : Int) from (by have i0_ := HP14.out; have i1_ := HP37.out; have i2_ := HP54.out; have i3_ := HP71.out; have i4_ := K127.out; exact ⟨by omega, by omega⟩))
   obtain ⟨ad129, rfl⟩ := StC.last_form (StI.toC F119.out) HI128.out.1 HI128.out.2
   have pHI128 := eq_true HI128.out.1
   have qHI128 := eq_true HI128.out.2
   go_wp2_with (fail)
   refine start_ (n := 11) (S := fun w' => Bk w' g3 #[.slice A0_0 s.now.length c0_0, .slice A0_1 s.sure.length c0_1, .slice (some ad129) s.last.length c0_2, .slice A0_3 s.slast.length c0_3, .slice A0_4 s.floors.length c0_4] 26 ∧ w'.cell? (ad129.add (r9).toNat) = some (.int .i64 (rd s.last r9))) (ds := [10]) #[false, false, false, false, false, false, false, false, false, false, false] (by kernel_rfl) rfl rfl ⟨(show Bk W109 g3 #[.slice A0_0 s.now.length c0_0, .slice A0_1 s.sure.length c0_1, .slice (some ad129) s.last.length c0_2, .slice A0_3 s.slast.length c0_3, .slice A0_4 s.floors.length c0_4] 26 from F120.out), (StC.last_read (StI.toC F119.out) HI128.out.1 HI128.out.2)⟩ (fun hHeld => ?_)
   clear hHeld
   refine world_at (w := W109) (below_drew0 _) (fun W130 HB131 => ?_)
   refine pure_ (i := 0) (N := some 24) (v := ?_) (a' := ?_) #[true, false, false, false, false, false, false, false, false, false, false] rfl rfl (by kernel_rfl) (fun _ _ _ h => h) (Or.inl ⟨by rfl, ?_⟩) ?_ ?_
   rotate_left
   ·intro w'
    go_simp
    with_reducible rfl
   rotate_left
   ·simp only [Act.put, List.setIfInBounds_toArray, List.set_cons_zero, List.set_cons_succ, i64_w, i32_w]
    rfl
   refine take_ (i := 1) (N := some 25) (v := .slice (some ad129) s.last.length c0_2) (a' := ?_) #[true, true, false, false, false, false, false, false, false, false, false] rfl rfl (by kernel_rfl) (fun _ _ _ h => h) (Or.inl ⟨by rfl, ?_⟩) ⟨(Bk.below F120.out HB131.out), (StC.last_read (StI.toC (StI.below F119.out HB131.out)) HI128.out.1 HI128.out.2)⟩ ?_ ?_
   ·rintro w' ⟨s0_, s1_⟩
    have hc_ : w'.cell? ⟨g3, 2, none⟩ = some (.slice (some ad129) s.last.length c0_2) := (Bk.cell s0_ 2).trans rfl
    first | (go_simp; done) | (go_simp; with_reducible rfl) | (go_simp; rfl)
   rotate_left
   ·simp only [Act.put, List.setIfInBounds_toArray, List.set_cons_zero, List.set_cons_succ, i64_w, i32_w]
    rfl
   refine pure_ (i := 2) (N := some 26) (v := ?_) (a' := ?_) #[true, true, true, false, false, false, false, false, false, false, false] rfl rfl (by kernel_rfl) (fun _ _ _ h => h) (Or.inl ⟨by rfl, ?_⟩) ?_ ?_
   rotate_left
   ·intro w'
    go_simp
    with_reducible rfl
   rotate_left
   ·simp only [Act.put, List.setIfInBounds_toArray, List.set_cons_zero, List.set_cons_succ, i64_w, i32_w]
    rfl
   refine pure_ (i := 3) (N := some 27) (v := ?_) (a' := ?_) #[true, true, true, true, false, false, false, false, false, false, false] rfl rfl (by kernel_rfl) (fun _ _ _ h => h) (Or.inl ⟨by rfl, ?_⟩) ?_ ?_
   rotate_left
   ·intro w'
    go_simp
    with_reducible rfl
   rotate_left
   ·simp only [Act.put, List.setIfInBounds_toArray, List.set_cons_zero, List.set_cons_succ, i64_w, i32_w]
    rfl
   refine take_ (i := 4) (N := some 28) (v := .int .i64 (rd s.last r9)) (a' := ?_) #[true, true, true, true, true, false, false, false, false, false, false] rfl rfl (by kernel_rfl) (fun _ _ _ h => h) (Or.inl ⟨by rfl, ?_⟩) ⟨(Bk.below F120.out HB131.out), (StC.last_read (StI.toC (StI.below F119.out HB131.out)) HI128.out.1 HI128.out.2)⟩ ?_ ?_
   ·rintro w' ⟨s0_, s1_⟩
    first | (go_simp; done) | (go_simp; with_reducible rfl) | (go_simp; rfl)
   rotate_left
   ·simp only [Act.put, List.setIfInBounds_toArray, List.set_cons_zero, List.set_cons_succ, i64_w, i32_w]
    rfl
   refine pure_ (i := 5) (N := some 29) (v := ?_) (a' := ?_) #[true, true, true, true, true, true, false, false, false, false, false] rfl rfl (by kernel_rfl) (fun _ _ _ h => h) (Or.inl ⟨by rfl, ?_⟩) ?_ ?_
   rotate_left
   ·intro w'
    go_simp
    with_reducible rfl
   rotate_left
   ·simp only [Act.put, List.setIfInBounds_toArray, List.set_cons_zero, List.set_cons_succ, i64_w, i32_w]
    rfl
   refine one_ (i := 6) (N := some 30) #[true, true, true, true, true, true, true, false, false, false, false] rfl rfl (by kernel_rfl) (by decide) (fun K hK => ?_)
   refine lit_step (Kd.int .i64) 3 (by rfl) (N := 30) rfl (xs := ([1, 1, 1, 1, 1, 0, 2, (-1)] : List Int)) (inner := [.int .i64 1, .int .i64 1, .int .i64 1, .int .i64 1, .int .i64 1, .int .i64 0, .int .i64 2, .int .i64 (-1)]) (by first | (go_simp; done) | (go_simp; rfl)) (reps_int ([1, 1, 1, 1, 1, 0, 2, (-1)] : List Int)) (by simp) ?_
   intro A132 c133 W135 HL134 HB136
   refine hK.out _ _ ⟨(Bk.below F120.out (below_step HB131.out HB136.out)), (StC.last_read (StI.toC (StI.below F119.out (below_step HB131.out HB136.out))) HI128.out.1 HI128.out.2)⟩ (fun hHeld => ?_)
   clear hHeld hK K
   refine norm_ (a' := ?_) ?_ ?_
   rotate_left
   ·show Act.put _ (some 30) _ = _
    simp only [Act.put, List.setIfInBounds_toArray, List.set_cons_zero, List.set_cons_succ, i64_w, i32_w]
    rfl
   refine one_ (i := 7) (N := some 31) #[true, true, true, true, true, true, true, true, false, false, false] rfl rfl (by kernel_rfl) (by decide) (fun K hK => ?_)
   refine goes_ Try.func64 (by kernel_rfl) rfl #[.pointer (some ⟨g, 0, none⟩), .slice A132 ([1, 1, 1, 1, 1, 0, 2, (-1)] : List Int).length c133] (by rfl) rfl rfl (by (try simp only [List.map_toArray, List.map_cons, List.map_nil]); first | done | rfl) ?_
   refine (num_c (m := m + 14) (Rd.below F123.out (below_step HB131.out HB136.out)) (below_step HB115.out (below_step HB131.out HB136.out)) HL134.out.1 HL134.out.2.1 (fun ad_ e_ h_ => (by have q_ := HL134.out.2.2 ad_ e_ h_; show ad_.block ≠ g; have z0_ := HB0.out.size; have z1_ := HG.out; have z2_ := HG0.out; have z3_ := HF.out; have z4_ := HHI.out; have z5_ := C18.out; have z6_ := C19.out; have z7_ := C113.out; have z8_ := T117.out; have z9_ := HB131.out.size; have z10_ := HB136.out.size; omega)) (by decide)).mono ?_
   rintro e W142 ⟨r137, rfl, hm138, hR139, hb143, hk140⟩
   have z0_ := HB0.out.size
   have z1_ := HG.out
   have z2_ := HG0.out
   have z3_ := HF.out
   have z4_ := HHI.out
   have z5_ := C18.out
   have z6_ := C19.out
   have z7_ := C113.out
   have z8_ := T117.out
   have z9_ := HB131.out.size
   have z10_ := HB136.out.size
   have T145 := Ak (show g6 + 1 ≤ W135.heap.size from (by omega))
   have N146 := Ak (show ¬ (g ≤ g6 ∧ g6 < g + 1) from (by omega))
   have HB147 := Ak (hb143)
   have HK148 := Ak (hk140)
   have KP150 := Ak (Kept.then_ (Kept.below KP118.out (below_step HB131.out HB136.out)) HK148.out (fun _ h_ => Or.inl h_))
   have T149 := Ak (Nat.le_trans T145.out HK148.out.1)
   have F151 := Ak (StI.kept (StI.below F119.out (below_step HB131.out HB136.out)) HK148.out N21.out)
   have F152 := Ak (Bk.kept (Bk.below F120.out (below_step HB131.out HB136.out)) HK148.out N22.out)
   have F153 := Ak (Bk.kept (Bk.below F121.out (below_step HB131.out HB136.out)) HK148.out N23.out)
   have F154 := Ak (Bk.kept (Bk.below F122.out (below_step HB131.out HB136.out)) HK148.out N146.out)
   have F155 := Ak (hR139)
   clear z0_ z1_ z2_ z3_ z4_ z5_ z6_ z7_ z8_ z9_ z10_ hb143 hk140 hR139
   have HM141 := Ak hm138
   clear hm138
   refine ⟨_, rfl, ?_⟩
   refine hK.out _ _ ⟨F152.out, (StC.last_read (StI.toC F151.out) HI128.out.1 HI128.out.2)⟩ (fun hHeld => ?_)
   clear hHeld hK K
   refine norm_ (a' := ?_) ?_ ?_
   rotate_left
   ·show Act.put _ (some 31) _ = _
    simp only [Act.put, List.setIfInBounds_toArray, List.set_cons_zero, List.set_cons_succ, i64_w, i32_w]
    rfl
   refine pure_ (i := 8) (N := some 32) (v := ?_) (a' := ?_) #[true, true, true, true, true, true, true, true, true, false, false] rfl rfl (by kernel_rfl) (fun _ _ _ h => h) (Or.inl ⟨by rfl, ?_⟩) ?_ ?_
   rotate_left
   ·intro w'
    go_simp
    with_reducible rfl
   rotate_left
   ·simp only [Act.put, List.setIfInBounds_toArray, List.set_cons_zero, List.set_cons_succ, i64_w, i32_w]
    rfl
   refine pure_ (i := 9) (N := some 33) (v := ?_) (a' := ?_) #[true, true, true, true, true, true, true, true, true, true, false] rfl rfl (by kernel_rfl) (fun _ _ _ h => h) (Or.inl ⟨by rfl, ?_⟩) ?_ ?_
   rotate_left
   ·intro w'
    go_simp
    with_reducible rfl
   rotate_left
   ·simp only [Act.put, List.setIfInBounds_toArray, List.set_cons_zero, List.set_cons_succ, i64_w, i32_w]
    rfl
   refine last_ (i := 10) (N := none) #[true, true, true, true, true, true, true, true, true, true, true] rfl rfl (by kernel_rfl) (by decide) (fun K hK => ?_)
   refine skip_ (w1 := W142.setCell ⟨g6, 2, none⟩ (.int .i64 (wrap64 ((rd s.last r9) + r137)))) (by rfl) rfl ?_ ?_
   ·have hc_ : W142.cell? ⟨g6, 2, none⟩ = some (.int .i64 1) := (Bk.cell F154.out 2).trans rfl
    have hf_ := Bk.hot F154.out 2
    first | (go_simp; done) | (go_simp; rfl)
   refine hK.out _ _ ?_
   clear hK K
   refine done_ (by kernel_rfl) ?_
   refine set_event (fun W156 e157 => ?_)
   have z0_ := HB0.out.size
   have z1_ := HG.out
   have z2_ := HG0.out
   have z3_ := HF.out
   have z4_ := HHI.out
   have z5_ := C18.out
   have z6_ := C19.out
   have z7_ := C113.out
   have z8_ := T149.out
   have T158 := Ak (show g6 + 1 ≤ W142.heap.size from (by omega))
   have HB159 := Ak (below_at HB147.out (below_setcell e157) (by show w0.heap.size ≤ g6; omega))
   have HK160 := Ak (kept_set e157)
   have KP162 := Ak (kept_new KP150.out HK160.out (by show w.heap.size ≤ g6; omega))
   have T161 := Ak (Nat.le_trans T158.out HK160.out.1)
   have F163 := Ak (StI.kept F151.out HK160.out (fun k_ h_ => (by obtain ⟨h1_, h2_⟩ := h_; omega)))
   have F164 := Ak (Bk.kept F152.out HK160.out (fun h_ => (by obtain ⟨h1_, h2_⟩ := h_; omega)))
   have F165 := Ak (Bk.kept F153.out HK160.out (fun h_ => (by obtain ⟨h1_, h2_⟩ := h_; omega)))
   have F166 := Ak (Bk.put F154.out e157 rfl)
   have F167 := Ak (Rd.kept F155.out HK160.out (fun h_ => (by obtain ⟨h1_, h2_⟩ := h_; omega)))
   clear z0_ z1_ z2_ z3_ z4_ z5_ z6_ z7_ z8_ e157
   try go_wp2
   go_meet
   case rel => exact ⟨_, ⟨F164.out⟩, ⟨F165.out⟩, ⟨F166.out⟩, ⟨F163.out⟩, ⟨Rd.less F167.out (by omega)⟩, ⟨HB159.out⟩, ⟨KP162.out⟩, ⟨(by show g6 + 1 ≤ W156.heap.size; have z0_ := HB0.out.size; have z1_ := HG.out; have z2_ := HG0.out; have z3_ := HF.out; have z4_ := HHI.out; have z5_ := C18.out; have z6_ := C19.out; have z7_ := C113.out; have z8_ := T161.out; omega)⟩⟩
  ·have d126 : ((s.last.length : Int) == 3) = false := beq_eq_false_iff_ne.mpr c125
   have K127 := Ak c125
   clear c125
   try go_wp2
   go_meet
   case rel => exact ⟨_, ⟨F120.out⟩, ⟨F121.out⟩, ⟨F122.out⟩, ⟨F119.out⟩, ⟨Rd.less F123.out (by omega)⟩, ⟨HB115.out⟩, ⟨KP118.out⟩, ⟨(by show g6 + 1 ≤ W109.heap.size; have z0_ := HB0.out.size; have z1_ := HG.out; have z2_ := HG0.out; have z3_ := HF.out; have z4_ := HHI.out; have z5_ := C18.out; have z6_ := C19.out; have z7_ := C113.out; have z8_ := T117.out; omega)⟩⟩
 case rest =>
  obtain ⟨W124, hW_⟩ : ∃ x_, x_ = wc := ⟨_, rfl⟩
  subst hW_
  obtain ⟨n2_, BK168, BK169, BK170, HR171, RD172, HB173, KP174, HZ175⟩ := hcut
  go_upto_region 5 with (fail)
  go_cut [42] (fun v42_ W176 => ∃ (x42_ : Bool), v42_ = .bool x42_ ∧ Aside0 (Bk W176 g3 #[.slice A0_0 s.now.length c0_0, .slice A0_1 s.sure.length c0_1, .slice A0_2 s.last.length c0_2, .slice A0_3 s.slast.length c0_3, .slice A0_4 s.floors.length c0_4] 26) ∧ Aside0 (Bk W176 g4 #[.int .i64 0, .int .i64 0, .int .i64 0, .int .i64 0, .int .i64 0, .string ⟨#[]⟩] 52) ∧ Aside0 (Bk W176 g6 #[.int .i64 r9, .int .i64 r32, .int .i64 n2_, .int .i64 r49, .int .i64 r66, .string r88] 52) ∧ Aside0 (StI W176 lo hi (.agg #[.slice A0_0 s.now.length c0_0, .slice A0_1 s.sure.length c0_1, .slice A0_2 s.last.length c0_2, .slice A0_3 s.slast.length c0_3, .slice A0_4 s.floors.length c0_4]) (s)) ∧ Aside0 (Rd w0 W176 g (m + 13)) ∧ Aside0 (Below w0.heap.size w0 W176) ∧ Aside0 (Kept w W176 (fun k => g ≤ k ∧ k < g + 1)) ∧ Aside0 (g6 + 1 ≤ W176.heap.size) ∧ Aside0 (x42_ = true → (s.floors.length : Int) = 3))
  case first =>
   go_upto_region 5 with (fail)
   by_cases c177 : (s.floors.length : Int) = 3
   ·have d178 : ((s.floors.length : Int) == 3) = true := beq_iff_eq.mpr c177
    have K179 := Ak c177
    clear c177
    go_wp2_with (first | ((with_reducible refine gate_dst (N := 35) rfl ?_); refine ev_val (by rfl) (v := .slice A0_4 s.floors.length c0_4) ?hr ?_; (case hr => have hc_ : W124.cell? ⟨g3, 4, none⟩ = some (.slice A0_4 s.floors.length c0_4) := (Bk.cell BK168.out 4).trans rfl; first | (go_simp; done) | (go_simp; rfl))))
    refine (pick_c (m := m + 13) RD172.out HB173.out (by omega)).mono ?_
    rintro e W186 ⟨r180, rfl, h181, h182, hR183, hb187, hk184⟩
    have z0_ := HB0.out.size
    have z1_ := HG.out
    have z2_ := HG0.out
    have z3_ := HF.out
    have z4_ := HHI.out
    have z5_ := C18.out
    have z6_ := C19.out
    have z7_ := C113.out
    have z8_ := HZ175.out
    have T189 := Ak (show g6 + 1 ≤ W124.heap.size from (by omega))
    have N190 := Ak (show ¬ (g ≤ g6 ∧ g6 < g + 1) from (by omega))
    have HB191 := Ak (hb187)
    have HK192 := Ak (hk184)
    have KP194 := Ak (Kept.then_ KP174.out HK192.out (fun _ h_ => Or.inl h_))
    have T193 := Ak (Nat.le_trans T189.out HK192.out.1)
    have F195 := Ak (StI.kept HR171.out HK192.out N21.out)
    have F196 := Ak (Bk.kept BK168.out HK192.out N22.out)
    have F197 := Ak (Bk.kept BK169.out HK192.out N23.out)
    have F198 := Ak (Bk.kept BK170.out HK192.out N190.out)
    have F199 := Ak (hR183)
    clear z0_ z1_ z2_ z3_ z4_ z5_ z6_ z7_ z8_ hb187 hk184 hR183
    have HP185 := Ak (And.intro h181 h182)
    clear h181 h182
    try go_wp2
    go_meet
    case rel => exact ⟨_, rfl, ⟨F196.out⟩, ⟨F197.out⟩, ⟨F198.out⟩, ⟨F195.out⟩, ⟨Rd.less F199.out (by omega)⟩, ⟨HB191.out⟩, ⟨KP194.out⟩, ⟨(by show g6 + 1 ≤ W186.heap.size; have z0_ := HB0.out.size; have z1_ := HG.out; have z2_ := HG0.out; have z3_ := HF.out; have z4_ := HHI.out; have z5_ := C18.out; have z6_ := C19.out; have z7_ := C113.out; have z8_ := T193.out; omega)⟩, ⟨fun _ => K179.out⟩⟩
   ·have d178 : ((s.floors.length : Int) == 3) = false := beq_eq_false_iff_ne.mpr c177
    have K179 := Ak c177
    clear c177
    try go_wp2_with (first | ((with_reducible refine gate_dst (N := 35) rfl ?_); refine ev_val (by rfl) (v := .slice A0_4 s.floors.length c0_4) ?hr ?_; (case hr => have hc_ : W124.cell? ⟨g3, 4, none⟩ = some (.slice A0_4 s.floors.length c0_4) := (Bk.cell BK168.out 4).trans rfl; first | (go_simp; done) | (go_simp; rfl))))
    go_meet
    case rel => exact ⟨_, rfl, ⟨BK168.out⟩, ⟨BK169.out⟩, ⟨BK170.out⟩, ⟨HR171.out⟩, ⟨Rd.less RD172.out (by omega)⟩, ⟨HB173.out⟩, ⟨KP174.out⟩, ⟨(by show g6 + 1 ≤ W124.heap.size; have z0_ := HB0.out.size; have z1_ := HG.out; have z2_ := HG0.out; have z3_ := HF.out; have z4_ := HHI.out; have z5_ := C18.out; have z6_ := C19.out; have z7_ := C113.out; have z8_ := HZ175.out; omega)⟩, ⟨fun h_ => absurd h_ (by decide)⟩⟩
  case rest =>
   obtain ⟨W176, hW_⟩ : ∃ x_, x_ = wc := ⟨_, rfl⟩
   subst hW_
   obtain ⟨x42_, rfl, BK200, BK201, BK202, HR203, RD204, HB205, KP206, HZ207, HX208⟩ := hcut
   have HX42 := HX208
   go_upto_if 42 with (fail)
   go_cut [] (fun W209 => ∃ (n1_ : Int), Aside0 (Bk W209 g3 #[.slice A0_0 s.now.length c0_0, .slice A0_1 s.sure.length c0_1, .slice A0_2 s.last.length c0_2, .slice A0_3 s.slast.length c0_3, .slice A0_4 s.floors.length c0_4] 26) ∧ Aside0 (Bk W209 g4 #[.int .i64 0, .int .i64 0, .int .i64 0, .int .i64 0, .int .i64 0, .string ⟨#[]⟩] 52) ∧ Aside0 (Bk W209 g6 #[.int .i64 r9, .int .i64 n1_, .int .i64 n2_, .int .i64 r49, .int .i64 r66, .string r88] 52) ∧ Aside0 (StI W209 lo hi (.agg #[.slice A0_0 s.now.length c0_0, .slice A0_1 s.sure.length c0_1, .slice A0_2 s.last.length c0_2, .slice A0_3 s.slast.length c0_3, .slice A0_4 s.floors.length c0_4]) (s)) ∧ Aside0 (Rd w0 W209 g (m + 10)) ∧ Aside0 (Below w0.heap.size w0 W209) ∧ Aside0 (Kept w W209 (fun k => g ≤ k ∧ k < g + 1)) ∧ Aside0 (g6 + 1 ≤ W209.heap.size))
   case first =>
    cases x42_
    ·skip
     try go_wp2
     go_meet
     case rel => exact ⟨_, ⟨BK200.out⟩, ⟨BK201.out⟩, ⟨BK202.out⟩, ⟨HR203.out⟩, ⟨Rd.less RD204.out (by omega)⟩, ⟨HB205.out⟩, ⟨KP206.out⟩, ⟨(by show g6 + 1 ≤ W176.heap.size; have z0_ := HB0.out.size; have z1_ := HG.out; have z2_ := HG0.out; have z3_ := HF.out; have z4_ := HHI.out; have z5_ := C18.out; have z6_ := C19.out; have z7_ := C113.out; have z8_ := HZ207.out; omega)⟩⟩
    ·skip
     go_upto_region 6 with (fail)
     have HI210 := Ak (show 0 ≤ (r9 : Int) ∧ (r9 : Int) < ((s.floors).length : Int) from (by have l_ := HX42.out rfl; have i0_ := HP14.out; have i1_ := HP37.out; have i2_ := HP54.out; have i3_ := HP71.out; exact ⟨by omega, by omega⟩))
     obtain ⟨ad211, rfl⟩ := StC.floors_form (StI.toC HR203.out) HI210.out.1 HI210.out.2
     have pHI210 := eq_true HI210.out.1
     have qHI210 := eq_true HI210.out.2
     go_wp2_with (fail)
     refine start_ (n := 10) (S := fun w' => Bk w' g3 #[.slice A0_0 s.now.length c0_0, .slice A0_1 s.sure.length c0_1, .slice A0_2 s.last.length c0_2, .slice A0_3 s.slast.length c0_3, .slice (some ad211) s.floors.length c0_4] 26 ∧ w'.cell? (ad211.add (r9).toNat) = some (.int .i64 (rd s.floors r9))) (ds := [9]) #[false, false, false, false, false, false, false, false, false, false] (by kernel_rfl) rfl rfl ⟨(show Bk W176 g3 #[.slice A0_0 s.now.length c0_0, .slice A0_1 s.sure.length c0_1, .slice A0_2 s.last.length c0_2, .slice A0_3 s.slast.length c0_3, .slice (some ad211) s.floors.length c0_4] 26 from BK200.out), (StC.floors_read (StI.toC HR203.out) HI210.out.1 HI210.out.2)⟩ (fun hHeld => ?_)
     clear hHeld
     refine world_at (w := W176) (below_drew0 _) (fun W212 HB213 => ?_)
     refine pure_ (i := 0) (N := some 43) (v := ?_) (a' := ?_) #[true, false, false, false, false, false, false, false, false, false] rfl rfl (by kernel_rfl) (fun _ _ _ h => h) (Or.inl ⟨by rfl, ?_⟩) ?_ ?_
     rotate_left
     ·intro w'
      go_simp
      with_reducible rfl
     rotate_left
     ·simp only [Act.put, List.setIfInBounds_toArray, List.set_cons_zero, List.set_cons_succ, i64_w, i32_w]
      rfl
     refine take_ (i := 1) (N := some 44) (v := .slice (some ad211) s.floors.length c0_4) (a' := ?_) #[true, true, false, false, false, false, false, false, false, false] rfl rfl (by kernel_rfl) (fun _ _ _ h => h) (Or.inl ⟨by rfl, ?_⟩) ⟨(Bk.below BK200.out HB213.out), (StC.floors_read (StI.toC (StI.below HR203.out HB213.out)) HI210.out.1 HI210.out.2)⟩ ?_ ?_
     ·rintro w' ⟨s0_, s1_⟩
      have hc_ : w'.cell? ⟨g3, 4, none⟩ = some (.slice (some ad211) s.floors.length c0_4) := (Bk.cell s0_ 4).trans rfl
      first | (go_simp; done) | (go_simp; with_reducible rfl) | (go_simp; rfl)
     rotate_left
     ·simp only [Act.put, List.setIfInBounds_toArray, List.set_cons_zero, List.set_cons_succ, i64_w, i32_w]
      rfl
     refine pure_ (i := 2) (N := some 45) (v := ?_) (a' := ?_) #[true, true, true, false, false, false, false, false, false, false] rfl rfl (by kernel_rfl) (fun _ _ _ h => h) (Or.inl ⟨by rfl, ?_⟩) ?_ ?_
     rotate_left
     ·intro w'
      go_simp
      with_reducible rfl
     rotate_left
     ·simp only [Act.put, List.setIfInBounds_toArray, List.set_cons_zero, List.set_cons_succ, i64_w, i32_w]
      rfl
     refine pure_ (i := 3) (N := some 46) (v := ?_) (a' := ?_) #[true, true, true, true, false, false, false, false, false, false] rfl rfl (by kernel_rfl) (fun _ _ _ h => h) (Or.inl ⟨by rfl, ?_⟩) ?_ ?_
     rotate_left
     ·intro w'
      go_simp
      with_reducible rfl
     rotate_left
     ·simp only [Act.put, List.setIfInBounds_toArray, List.set_cons_zero, List.set_cons_succ, i64_w, i32_w]
      rfl
     refine take_ (i := 4) (N := some 47) (v := .int .i64 (rd s.floors r9)) (a' := ?_) #[true, true, true, true, true, false, false, false, false, false] rfl rfl (by kernel_rfl) (fun _ _ _ h => h) (Or.inl ⟨by rfl, ?_⟩) ⟨(Bk.below BK200.out HB213.out), (StC.floors_read (StI.toC (StI.below HR203.out HB213.out)) HI210.out.1 HI210.out.2)⟩ ?_ ?_
     ·rintro w' ⟨s0_, s1_⟩
      first | (go_simp; done) | (go_simp; with_reducible rfl) | (go_simp; rfl)
     rotate_left
     ·simp only [Act.put, List.setIfInBounds_toArray, List.set_cons_zero, List.set_cons_succ, i64_w, i32_w]
      rfl
     refine pure_ (i := 5) (N := some 48) (v := ?_) (a' := ?_) #[true, true, true, true, true, true, false, false, false, false] rfl rfl (by kernel_rfl) (fun _ _ _ h => h) (Or.inl ⟨by rfl, ?_⟩) ?_ ?_
     rotate_left
     ·intro w'
      go_simp
      with_reducible rfl
     rotate_left
     ·simp only [Act.put, List.setIfInBounds_toArray, List.set_cons_zero, List.set_cons_succ, i64_w, i32_w]
      rfl
     refine one_ (i := 6) (N := some 49) #[true, true, true, true, true, true, true, false, false, false] rfl rfl (by kernel_rfl) (by decide) (fun K hK => ?_)
     refine goes_ Try.func60 (by kernel_rfl) rfl #[.pointer (some ⟨g, 0, none⟩), .int .i64 2] (by rfl) rfl rfl (by (try simp only [List.map_toArray, List.map_cons, List.map_nil]); first | done | rfl) ?_
     refine (pick_c (m := m + 12) (Rd.below RD204.out HB213.out) (below_step HB205.out HB213.out) (by omega)).mono ?_
     rintro e W220 ⟨r214, rfl, h215, h216, hR217, hb221, hk218⟩
     have z0_ := HB0.out.size
     have z1_ := HG.out
     have z2_ := HG0.out
     have z3_ := HF.out
     have z4_ := HHI.out
     have z5_ := C18.out
     have z6_ := C19.out
     have z7_ := C113.out
     have z8_ := HZ207.out
     have z9_ := HB213.out.size
     have T223 := Ak (show g6 + 1 ≤ W212.heap.size from (by omega))
     have N224 := Ak (show ¬ (g ≤ g6 ∧ g6 < g + 1) from (by omega))
     have HB225 := Ak (hb221)
     have HK226 := Ak (hk218)
     have KP228 := Ak (Kept.then_ (Kept.below KP206.out HB213.out) HK226.out (fun _ h_ => Or.inl h_))
     have T227 := Ak (Nat.le_trans T223.out HK226.out.1)
     have F229 := Ak (StI.kept (StI.below HR203.out HB213.out) HK226.out N21.out)
     have F230 := Ak (Bk.kept (Bk.below BK200.out HB213.out) HK226.out N22.out)
     have F231 := Ak (Bk.kept (Bk.below BK201.out HB213.out) HK226.out N23.out)
     have F232 := Ak (Bk.kept (Bk.below BK202.out HB213.out) HK226.out N224.out)
     have F233 := Ak (hR217)
     clear z0_ z1_ z2_ z3_ z4_ z5_ z6_ z7_ z8_ z9_ hb221 hk218 hR217
     have HP219 := Ak (And.intro h215 h216)
     clear h215 h216
     refine ⟨_, rfl, ?_⟩
     refine hK.out _ _ ⟨F230.out, (StC.floors_read (StI.toC F229.out) HI210.out.1 HI210.out.2)⟩ (fun hHeld => ?_)
     clear hHeld hK K
     refine norm_ (a' := ?_) ?_ ?_
     rotate_left
     ·show Act.put _ (some 49) _ = _
      simp only [Act.put, List.setIfInBounds_toArray, List.set_cons_zero, List.set_cons_succ, i64_w, i32_w]
      rfl
     refine pure_ (i := 7) (N := some 50) (v := ?_) (a' := ?_) #[true, true, true, true, true, true, true, true, false, false] rfl rfl (by kernel_rfl) (fun _ _ _ h => h) (Or.inl ⟨by rfl, ?_⟩) ?_ ?_
     rotate_left
     ·intro w'
      go_simp
      with_reducible rfl
     rotate_left
     ·simp only [Act.put, List.setIfInBounds_toArray, List.set_cons_zero, List.set_cons_succ, i64_w, i32_w]
      rfl
     refine pure_ (i := 8) (N := some 51) (v := ?_) (a' := ?_) #[true, true, true, true, true, true, true, true, true, false] rfl rfl (by kernel_rfl) (fun _ _ _ h => h) (Or.inl ⟨by rfl, ?_⟩) ?_ ?_
     rotate_left
     ·intro w'
      go_simp
      with_reducible rfl
     rotate_left
     ·simp only [Act.put, List.setIfInBounds_toArray, List.set_cons_zero, List.set_cons_succ, i64_w, i32_w]
      rfl
     refine last_ (i := 9) (N := none) #[true, true, true, true, true, true, true, true, true, true] rfl rfl (by kernel_rfl) (by decide) (fun K hK => ?_)
     refine skip_ (w1 := W220.setCell ⟨g6, 1, none⟩ (.int .i64 (wrap64 ((rd s.floors r9) + r214)))) (by rfl) rfl ?_ ?_
     ·have hc_ : W220.cell? ⟨g6, 1, none⟩ = some (.int .i64 r32) := (Bk.cell F232.out 1).trans rfl
      have hf_ := Bk.hot F232.out 1
      first | (go_simp; done) | (go_simp; rfl)
     refine hK.out _ _ ?_
     clear hK K
     refine done_ (by kernel_rfl) ?_
     refine set_event (fun W234 e235 => ?_)
     have z0_ := HB0.out.size
     have z1_ := HG.out
     have z2_ := HG0.out
     have z3_ := HF.out
     have z4_ := HHI.out
     have z5_ := C18.out
     have z6_ := C19.out
     have z7_ := C113.out
     have z8_ := T227.out
     have T236 := Ak (show g6 + 1 ≤ W220.heap.size from (by omega))
     have HB237 := Ak (below_at HB225.out (below_setcell e235) (by show w0.heap.size ≤ g6; omega))
     have HK238 := Ak (kept_set e235)
     have KP240 := Ak (kept_new KP228.out HK238.out (by show w.heap.size ≤ g6; omega))
     have T239 := Ak (Nat.le_trans T236.out HK238.out.1)
     have F241 := Ak (StI.kept F229.out HK238.out (fun k_ h_ => (by obtain ⟨h1_, h2_⟩ := h_; omega)))
     have F242 := Ak (Bk.kept F230.out HK238.out (fun h_ => (by obtain ⟨h1_, h2_⟩ := h_; omega)))
     have F243 := Ak (Bk.kept F231.out HK238.out (fun h_ => (by obtain ⟨h1_, h2_⟩ := h_; omega)))
     have F244 := Ak (Bk.put F232.out e235 rfl)
     have F245 := Ak (Rd.kept F233.out HK238.out (fun h_ => (by obtain ⟨h1_, h2_⟩ := h_; omega)))
     clear z0_ z1_ z2_ z3_ z4_ z5_ z6_ z7_ z8_ e235
     try go_wp2
     go_meet
     case rel => exact ⟨_, ⟨F242.out⟩, ⟨F243.out⟩, ⟨F244.out⟩, ⟨F241.out⟩, ⟨Rd.less F245.out (by omega)⟩, ⟨HB237.out⟩, ⟨KP240.out⟩, ⟨(by show g6 + 1 ≤ W234.heap.size; have z0_ := HB0.out.size; have z1_ := HG.out; have z2_ := HG0.out; have z3_ := HF.out; have z4_ := HHI.out; have z5_ := C18.out; have z6_ := C19.out; have z7_ := C113.out; have z8_ := T239.out; omega)⟩⟩
   case rest =>
    obtain ⟨W209, hW_⟩ : ∃ x_, x_ = wc := ⟨_, rfl⟩
    subst hW_
    obtain ⟨n1_, BK246, BK247, BK248, HR249, RD250, HB251, KP252, HZ253⟩ := hcut
    go_wp2_with (fail)
    refine (pick_c (m := m + 9) RD250.out HB251.out (by omega)).mono ?_
    rintro e W260 ⟨r254, rfl, h255, h256, hR257, hb261, hk258⟩
    have z0_ := HB0.out.size
    have z1_ := HG.out
    have z2_ := HG0.out
    have z3_ := HF.out
    have z4_ := HHI.out
    have z5_ := C18.out
    have z6_ := C19.out
    have z7_ := C113.out
    have z8_ := HZ253.out
    have T263 := Ak (show g6 + 1 ≤ W209.heap.size from (by omega))
    have N264 := Ak (show ¬ (g ≤ g6 ∧ g6 < g + 1) from (by omega))
    have HB265 := Ak (hb261)
    have HK266 := Ak (hk258)
    have KP268 := Ak (Kept.then_ KP252.out HK266.out (fun _ h_ => Or.inl h_))
    have T267 := Ak (Nat.le_trans T263.out HK266.out.1)
    have F269 := Ak (StI.kept HR249.out HK266.out N21.out)
    have F270 := Ak (Bk.kept BK246.out HK266.out N22.out)
    have F271 := Ak (Bk.kept BK247.out HK266.out N23.out)
    have F272 := Ak (Bk.kept BK248.out HK266.out N264.out)
    have F273 := Ak (hR257)
    clear z0_ z1_ z2_ z3_ z4_ z5_ z6_ z7_ z8_ hb261 hk258 hR257
    have HP259 := Ak (And.intro h255 h256)
    clear h255 h256
    go_upto_if 54 with (fail)
    by_cases c274 : r254 = 0
    ·have d275 : (r254 == 0) = true := beq_iff_eq.mpr c274
     have K276 := Ak c274
     clear c274
     go_wp2_with (fail)
     refine (whoDraw_c (m := m + 7) F273.out HB265.out).mono ?_
     rintro e W280 ⟨r277, rfl, hR278, hb281, hk279⟩
     have HB283 := Ak (hb281)
     have HK284 := Ak (hk279)
     have KP286 := Ak (Kept.then_ KP268.out HK284.out (fun _ h_ => Or.inl h_))
     have T285 := Ak (Nat.le_trans T267.out HK284.out.1)
     have F287 := Ak (StI.kept F269.out HK284.out N21.out)
     have F288 := Ak (Bk.kept F270.out HK284.out N22.out)
     have F289 := Ak (Bk.kept F271.out HK284.out N23.out)
     have F290 := Ak (Bk.kept F272.out HK284.out N264.out)
     have F291 := Ak (hR278)
     clear hb281 hk279 hR278
     go_wp2_with (first | ((with_reducible refine gate_store (t := 3) (p := 58) rfl ?_); refine ev_setcell (by rfl) rfl (g := g6) (i := 0) (v := .int .i64 r277) ?hr ?_; (case hr => have hc_ : W280.cell? ⟨g6, 0, none⟩ = some (.int .i64 r9) := (Bk.cell F290.out 0).trans rfl; have hf_ := Bk.hot F290.out 0; first | (go_simp; done) | (go_simp; rfl)); intro W292 e293; have z0_ := HB0.out.size; have z1_ := HG.out; have z2_ := HG0.out; have z3_ := HF.out; have z4_ := HHI.out; have z5_ := C18.out; have z6_ := C19.out; have z7_ := C113.out; have z8_ := T285.out; have T294 := Ak (show g6 + 1 ≤ W280.heap.size from (by omega)); have HB295 := Ak (below_at HB283.out (below_setcell e293) (by show w0.heap.size ≤ g6; omega)); have HK296 := Ak (kept_set e293); have KP298 := Ak (kept_new KP286.out HK296.out (by show w.heap.size ≤ g6; omega)); have T297 := Ak (Nat.le_trans T294.out HK296.out.1); have F299 := Ak (StI.kept F287.out HK296.out (fun k_ h_ => (by obtain ⟨h1_, h2_⟩ := h_; omega))); have F300 := Ak (Bk.kept F288.out HK296.out (fun h_ => (by obtain ⟨h1_, h2_⟩ := h_; omega))); have F301 := Ak (Bk.kept F289.out HK296.out (fun h_ => (by obtain ⟨h1_, h2_⟩ := h_; omega))); have F302 := Ak (Bk.put F290.out e293 rfl); have F303 := Ak (Rd.kept F291.out HK296.out (fun h_ => (by obtain ⟨h1_, h2_⟩ := h_; omega))); clear z0_ z1_ z2_ z3_ z4_ z5_ z6_ z7_ z8_ e293) | ((with_reducible refine gate_dst (N := 89) rfl ?_); refine ev_load rfl (N := 89) rfl rfl (g := g6) rfl (cs := #[.int .i64 r277, .int .i64 n1_, .int .i64 n2_, .int .i64 r49, .int .i64 r66, .string r88]) F302.out hu52 rfl (by kernel_rfl) ?_) | ((with_reducible refine gate_store (t := 52) (p := 4) rfl ?_); refine ev_put (by rfl) rfl rfl (g := g4) rfl (cs := #[.int .i64 r277, .int .i64 n1_, .int .i64 n2_, .int .i64 r49, .int .i64 r66, .string r88]) rfl F301.out (by kernel_rfl) rfl rfl ?_; intro W304 BK305 HB306 HK307; have z0_ := HB0.out.size; have z1_ := HG.out; have z2_ := HG0.out; have z3_ := HF.out; have z4_ := HHI.out; have z5_ := C18.out; have z6_ := C19.out; have z7_ := C113.out; have z8_ := T297.out; have T308 := Ak (show g6 + 1 ≤ W292.heap.size from (by omega)); have HB309 := Ak (below_at HB295.out HB306.out (by show w0.heap.size ≤ g4; omega)); have HK310 := Ak (HK307.out); have KP312 := Ak (kept_new KP298.out HK310.out (by show w.heap.size ≤ g4; omega)); have T311 := Ak (Nat.le_trans T308.out HK310.out.1); have F313 := Ak (StI.kept F299.out HK310.out (fun k_ h_ => (by obtain ⟨h1_, h2_⟩ := h_; omega))); have F314 := Ak (Bk.kept F300.out HK310.out (fun h_ => (by obtain ⟨h1_, h2_⟩ := h_; omega))); have F315 := Ak (BK305.out); have F316 := Ak (Bk.kept F302.out HK310.out (fun h_ => (by obtain ⟨h1_, h2_⟩ := h_; omega))); have F317 := Ak (Rd.kept F303.out HK310.out (fun h_ => (by obtain ⟨h1_, h2_⟩ := h_; omega))); clear z0_ z1_ z2_ z3_ z4_ z5_ z6_ z7_ z8_))
     try go_wp2
     refine bodyPost_ret (results_cell_row rfl _ _ g4 52 #[.int .i64 r277, .int .i64 n1_, .int .i64 n2_, .int .i64 r49, .int .i64 r66, .string r88] (0, 0) _ rfl F315.out hu52 rfl (by kernel_rfl)) rfl ?_
     exact ⟨_, _, _, _, _, _, rfl, mem_small HM92.out (by decide), Rd.less F317.out (by omega), HB309.out, KP312.out⟩
    ·have d275 : (r254 == 0) = false := beq_eq_false_iff_ne.mpr c274
     have K276 := Ak c274
     clear c274
     go_upto_if 59 with (fail)
     by_cases c318 : r254 = 1
     ·have d319 : (r254 == 1) = true := beq_iff_eq.mpr c318
      have K320 := Ak c318
      clear c318
      go_wp2_with (first | ((with_reducible refine gate_dst (N := 62) rfl ?_); refine ev_lit (Kd.int .i64) 3 ?hg (N := 62) ?hd (xs := ([(-1), 3] : List Int)) (inner := [.int .i64 (-1), .int .i64 3]) ?hr (reps_int ([(-1), 3] : List Int)) (by simp) ?_; (case hd => rfl); (case hg => rfl); (case hr => first | (go_simp; done) | (go_simp; rfl)); intro A321 c322 W324 HL323 HB325))
      refine (num_c (m := m + 8) (Rd.below F273.out HB325.out) (below_step HB265.out HB325.out) HL323.out.1 HL323.out.2.1 (fun ad_ e_ h_ => (by have q_ := HL323.out.2.2 ad_ e_ h_; show ad_.block ≠ g; have z0_ := HB0.out.size; have z1_ := HG.out; have z2_ := HG0.out; have z3_ := HF.out; have z4_ := HHI.out; have z5_ := C18.out; have z6_ := C19.out; have z7_ := C113.out; have z8_ := T267.out; have z9_ := HB325.out.size; omega)) (by decide)).mono ?_
      rintro e W331 ⟨r326, rfl, hm327, hR328, hb332, hk329⟩
      have z0_ := HB0.out.size
      have z1_ := HG.out
      have z2_ := HG0.out
      have z3_ := HF.out
      have z4_ := HHI.out
      have z5_ := C18.out
      have z6_ := C19.out
      have z7_ := C113.out
      have z8_ := T267.out
      have z9_ := HB325.out.size
      have T334 := Ak (show g6 + 1 ≤ W324.heap.size from (by omega))
      have HB335 := Ak (hb332)
      have HK336 := Ak (hk329)
      have KP338 := Ak (Kept.then_ (Kept.below KP268.out HB325.out) HK336.out (fun _ h_ => Or.inl h_))
      have T337 := Ak (Nat.le_trans T334.out HK336.out.1)
      have F339 := Ak (StI.kept (StI.below F269.out HB325.out) HK336.out N21.out)
      have F340 := Ak (Bk.kept (Bk.below F270.out HB325.out) HK336.out N22.out)
      have F341 := Ak (Bk.kept (Bk.below F271.out HB325.out) HK336.out N23.out)
      have F342 := Ak (Bk.kept (Bk.below F272.out HB325.out) HK336.out N264.out)
      have F343 := Ak (hR328)
      clear z0_ z1_ z2_ z3_ z4_ z5_ z6_ z7_ z8_ z9_ hb332 hk329 hR328
      have HM330 := Ak hm327
      clear hm327
      go_wp2_with (first | ((with_reducible refine gate_store (t := 3) (p := 64) rfl ?_); refine ev_setcell (by rfl) rfl (g := g6) (i := 3) (v := .int .i64 r326) ?hr ?_; (case hr => have hc_ : W331.cell? ⟨g6, 3, none⟩ = some (.int .i64 r49) := (Bk.cell F342.out 3).trans rfl; have hf_ := Bk.hot F342.out 3; first | (go_simp; done) | (go_simp; rfl)); intro W344 e345; have z0_ := HB0.out.size; have z1_ := HG.out; have z2_ := HG0.out; have z3_ := HF.out; have z4_ := HHI.out; have z5_ := C18.out; have z6_ := C19.out; have z7_ := C113.out; have z8_ := T337.out; have T346 := Ak (show g6 + 1 ≤ W331.heap.size from (by omega)); have HB347 := Ak (below_at HB335.out (below_setcell e345) (by show w0.heap.size ≤ g6; omega)); have HK348 := Ak (kept_set e345); have KP350 := Ak (kept_new KP338.out HK348.out (by show w.heap.size ≤ g6; omega)); have T349 := Ak (Nat.le_trans T346.out HK348.out.1); have F351 := Ak (StI.kept F339.out HK348.out (fun k_ h_ => (by obtain ⟨h1_, h2_⟩ := h_; omega))); have F352 := Ak (Bk.kept F340.out HK348.out (fun h_ => (by obtain ⟨h1_, h2_⟩ := h_; omega))); have F353 := Ak (Bk.kept F341.out HK348.out (fun h_ => (by obtain ⟨h1_, h2_⟩ := h_; omega))); have F354 := Ak (Bk.put F342.out e345 rfl); have F355 := Ak (Rd.kept F343.out HK348.out (fun h_ => (by obtain ⟨h1_, h2_⟩ := h_; omega))); clear z0_ z1_ z2_ z3_ z4_ z5_ z6_ z7_ z8_ e345) | ((with_reducible refine gate_dst (N := 89) rfl ?_); refine ev_load rfl (N := 89) rfl rfl (g := g6) rfl (cs := #[.int .i64 r9, .int .i64 n1_, .int .i64 n2_, .int .i64 r326, .int .i64 r66, .string r88]) F354.out hu52 rfl (by kernel_rfl) ?_) | ((with_reducible refine gate_store (t := 52) (p := 4) rfl ?_); refine ev_put (by rfl) rfl rfl (g := g4) rfl (cs := #[.int .i64 r9, .int .i64 n1_, .int .i64 n2_, .int .i64 r326, .int .i64 r66, .string r88]) rfl F353.out (by kernel_rfl) rfl rfl ?_; intro W356 BK357 HB358 HK359; have z0_ := HB0.out.size; have z1_ := HG.out; have z2_ := HG0.out; have z3_ := HF.out; have z4_ := HHI.out; have z5_ := C18.out; have z6_ := C19.out; have z7_ := C113.out; have z8_ := T349.out; have T360 := Ak (show g6 + 1 ≤ W344.heap.size from (by omega)); have HB361 := Ak (below_at HB347.out HB358.out (by show w0.heap.size ≤ g4; omega)); have HK362 := Ak (HK359.out); have KP364 := Ak (kept_new KP350.out HK362.out (by show w.heap.size ≤ g4; omega)); have T363 := Ak (Nat.le_trans T360.out HK362.out.1); have F365 := Ak (StI.kept F351.out HK362.out (fun k_ h_ => (by obtain ⟨h1_, h2_⟩ := h_; omega))); have F366 := Ak (Bk.kept F352.out HK362.out (fun h_ => (by obtain ⟨h1_, h2_⟩ := h_; omega))); have F367 := Ak (BK357.out); have F368 := Ak (Bk.kept F354.out HK362.out (fun h_ => (by obtain ⟨h1_, h2_⟩ := h_; omega))); have F369 := Ak (Rd.kept F355.out HK362.out (fun h_ => (by obtain ⟨h1_, h2_⟩ := h_; omega))); clear z0_ z1_ z2_ z3_ z4_ z5_ z6_ z7_ z8_))
      try go_wp2
      refine bodyPost_ret (results_cell_row rfl _ _ g4 52 #[.int .i64 r9, .int .i64 n1_, .int .i64 n2_, .int .i64 r326, .int .i64 r66, .string r88] (0, 0) _ rfl F367.out hu52 rfl (by kernel_rfl)) rfl ?_
      exact ⟨_, _, _, _, _, _, rfl, mem_small HM92.out (by decide), Rd.less F369.out (by omega), HB361.out, KP364.out⟩
     ·have d319 : (r254 == 1) = false := beq_eq_false_iff_ne.mpr c318
      have K320 := Ak c318
      clear c318
      go_upto_if 65 with (fail)
      by_cases c370 : r254 = 2
      ·have d371 : (r254 == 2) = true := beq_iff_eq.mpr c370
       have K372 := Ak c370
       clear c370
       go_wp2_with (first | ((with_reducible refine gate_dst (N := 68) rfl ?_); refine ev_lit (Kd.int .i64) 3 ?hg (N := 68) ?hd (xs := ([(-1), 48, 9223372036854775807] : List Int)) (inner := [.int .i64 (-1), .int .i64 48, .int .i64 9223372036854775807]) ?hr (reps_int ([(-1), 48, 9223372036854775807] : List Int)) (by simp) ?_; (case hd => rfl); (case hg => rfl); (case hr => first | (go_simp; done) | (go_simp; rfl)); intro A373 c374 W376 HL375 HB377))
       refine (num_c (m := m + 8) (Rd.below F273.out HB377.out) (below_step HB265.out HB377.out) HL375.out.1 HL375.out.2.1 (fun ad_ e_ h_ => (by have q_ := HL375.out.2.2 ad_ e_ h_; show ad_.block ≠ g; have z0_ := HB0.out.size; have z1_ := HG.out; have z2_ := HG0.out; have z3_ := HF.out; have z4_ := HHI.out; have z5_ := C18.out; have z6_ := C19.out; have z7_ := C113.out; have z8_ := T267.out; have z9_ := HB377.out.size; omega)) (by decide)).mono ?_
       rintro e W383 ⟨r378, rfl, hm379, hR380, hb384, hk381⟩
       have z0_ := HB0.out.size
       have z1_ := HG.out
       have z2_ := HG0.out
       have z3_ := HF.out
       have z4_ := HHI.out
       have z5_ := C18.out
       have z6_ := C19.out
       have z7_ := C113.out
       have z8_ := T267.out
       have z9_ := HB377.out.size
       have T386 := Ak (show g6 + 1 ≤ W376.heap.size from (by omega))
       have HB387 := Ak (hb384)
       have HK388 := Ak (hk381)
       have KP390 := Ak (Kept.then_ (Kept.below KP268.out HB377.out) HK388.out (fun _ h_ => Or.inl h_))
       have T389 := Ak (Nat.le_trans T386.out HK388.out.1)
       have F391 := Ak (StI.kept (StI.below F269.out HB377.out) HK388.out N21.out)
       have F392 := Ak (Bk.kept (Bk.below F270.out HB377.out) HK388.out N22.out)
       have F393 := Ak (Bk.kept (Bk.below F271.out HB377.out) HK388.out N23.out)
       have F394 := Ak (Bk.kept (Bk.below F272.out HB377.out) HK388.out N264.out)
       have F395 := Ak (hR380)
       clear z0_ z1_ z2_ z3_ z4_ z5_ z6_ z7_ z8_ z9_ hb384 hk381 hR380
       have HM382 := Ak hm379
       clear hm379
       go_wp2_with (first | ((with_reducible refine gate_store (t := 3) (p := 70) rfl ?_); refine ev_setcell (by rfl) rfl (g := g6) (i := 4) (v := .int .i64 r378) ?hr ?_; (case hr => have hc_ : W383.cell? ⟨g6, 4, none⟩ = some (.int .i64 r66) := (Bk.cell F394.out 4).trans rfl; have hf_ := Bk.hot F394.out 4; first | (go_simp; done) | (go_simp; rfl)); intro W396 e397; have z0_ := HB0.out.size; have z1_ := HG.out; have z2_ := HG0.out; have z3_ := HF.out; have z4_ := HHI.out; have z5_ := C18.out; have z6_ := C19.out; have z7_ := C113.out; have z8_ := T389.out; have T398 := Ak (show g6 + 1 ≤ W383.heap.size from (by omega)); have HB399 := Ak (below_at HB387.out (below_setcell e397) (by show w0.heap.size ≤ g6; omega)); have HK400 := Ak (kept_set e397); have KP402 := Ak (kept_new KP390.out HK400.out (by show w.heap.size ≤ g6; omega)); have T401 := Ak (Nat.le_trans T398.out HK400.out.1); have F403 := Ak (StI.kept F391.out HK400.out (fun k_ h_ => (by obtain ⟨h1_, h2_⟩ := h_; omega))); have F404 := Ak (Bk.kept F392.out HK400.out (fun h_ => (by obtain ⟨h1_, h2_⟩ := h_; omega))); have F405 := Ak (Bk.kept F393.out HK400.out (fun h_ => (by obtain ⟨h1_, h2_⟩ := h_; omega))); have F406 := Ak (Bk.put F394.out e397 rfl); have F407 := Ak (Rd.kept F395.out HK400.out (fun h_ => (by obtain ⟨h1_, h2_⟩ := h_; omega))); clear z0_ z1_ z2_ z3_ z4_ z5_ z6_ z7_ z8_ e397) | ((with_reducible refine gate_dst (N := 89) rfl ?_); refine ev_load rfl (N := 89) rfl rfl (g := g6) rfl (cs := #[.int .i64 r9, .int .i64 n1_, .int .i64 n2_, .int .i64 r49, .int .i64 r378, .string r88]) F406.out hu52 rfl (by kernel_rfl) ?_) | ((with_reducible refine gate_store (t := 52) (p := 4) rfl ?_); refine ev_put (by rfl) rfl rfl (g := g4) rfl (cs := #[.int .i64 r9, .int .i64 n1_, .int .i64 n2_, .int .i64 r49, .int .i64 r378, .string r88]) rfl F405.out (by kernel_rfl) rfl rfl ?_; intro W408 BK409 HB410 HK411; have z0_ := HB0.out.size; have z1_ := HG.out; have z2_ := HG0.out; have z3_ := HF.out; have z4_ := HHI.out; have z5_ := C18.out; have z6_ := C19.out; have z7_ := C113.out; have z8_ := T401.out; have T412 := Ak (show g6 + 1 ≤ W396.heap.size from (by omega)); have HB413 := Ak (below_at HB399.out HB410.out (by show w0.heap.size ≤ g4; omega)); have HK414 := Ak (HK411.out); have KP416 := Ak (kept_new KP402.out HK414.out (by show w.heap.size ≤ g4; omega)); have T415 := Ak (Nat.le_trans T412.out HK414.out.1); have F417 := Ak (StI.kept F403.out HK414.out (fun k_ h_ => (by obtain ⟨h1_, h2_⟩ := h_; omega))); have F418 := Ak (Bk.kept F404.out HK414.out (fun h_ => (by obtain ⟨h1_, h2_⟩ := h_; omega))); have F419 := Ak (BK409.out); have F420 := Ak (Bk.kept F406.out HK414.out (fun h_ => (by obtain ⟨h1_, h2_⟩ := h_; omega))); have F421 := Ak (Rd.kept F407.out HK414.out (fun h_ => (by obtain ⟨h1_, h2_⟩ := h_; omega))); clear z0_ z1_ z2_ z3_ z4_ z5_ z6_ z7_ z8_))
       try go_wp2
       refine bodyPost_ret (results_cell_row rfl _ _ g4 52 #[.int .i64 r9, .int .i64 n1_, .int .i64 n2_, .int .i64 r49, .int .i64 r378, .string r88] (0, 0) _ rfl F419.out hu52 rfl (by kernel_rfl)) rfl ?_
       exact ⟨_, _, _, _, _, _, rfl, mem_small HM92.out (by decide), Rd.less F421.out (by omega), HB413.out, KP416.out⟩
      ·have d371 : (r254 == 2) = false := beq_eq_false_iff_ne.mpr c370
       have K372 := Ak c370
       clear c370
       go_upto_if 71 with (fail)
       by_cases c422 : r254 = 3
       ·have d423 : (r254 == 3) = true := beq_iff_eq.mpr c422
        have K424 := Ak c422
        clear c422
        go_wp2_with (first | ((with_reducible refine gate_dst (N := 74) rfl ?_); refine ev_lit Kd.string 9 ?hg (N := 74) ?hd (xs := ([(⟨#[]⟩ : ByteArray), (⟨#[65]⟩ : ByteArray), (⟨#[97, 32, 98]⟩ : ByteArray)] : List ByteArray)) (inner := [.string ⟨#[]⟩, .string ⟨#[65]⟩, .string ⟨#[97, 32, 98]⟩]) ?hr (reps_str ([(⟨#[]⟩ : ByteArray), (⟨#[65]⟩ : ByteArray), (⟨#[97, 32, 98]⟩ : ByteArray)] : List ByteArray)) (by simp) ?_; (case hd => rfl); (case hg => rfl); (case hr => first | (go_simp; done) | (go_simp; rfl)); intro A425 c426 W428 HL427 HB429))
        refine (of_c (m := m + 8) (Rd.below F273.out HB429.out) (below_step HB265.out HB429.out) HL427.out.1 HL427.out.2.1 (fun ad_ e_ h_ => (by have q_ := HL427.out.2.2 ad_ e_ h_; show ad_.block ≠ g; have z0_ := HB0.out.size; have z1_ := HG.out; have z2_ := HG0.out; have z3_ := HF.out; have z4_ := HHI.out; have z5_ := C18.out; have z6_ := C19.out; have z7_ := C113.out; have z8_ := T267.out; have z9_ := HB429.out.size; omega)) (by decide)).mono ?_
        rintro e W435 ⟨r430, rfl, hm431, hR432, hb436, hk433⟩
        have z0_ := HB0.out.size
        have z1_ := HG.out
        have z2_ := HG0.out
        have z3_ := HF.out
        have z4_ := HHI.out
        have z5_ := C18.out
        have z6_ := C19.out
        have z7_ := C113.out
        have z8_ := T267.out
        have z9_ := HB429.out.size
        have T438 := Ak (show g6 + 1 ≤ W428.heap.size from (by omega))
        have HB439 := Ak (hb436)
        have HK440 := Ak (hk433)
        have KP442 := Ak (Kept.then_ (Kept.below KP268.out HB429.out) HK440.out (fun _ h_ => Or.inl h_))
        have T441 := Ak (Nat.le_trans T438.out HK440.out.1)
        have F443 := Ak (StI.kept (StI.below F269.out HB429.out) HK440.out N21.out)
        have F444 := Ak (Bk.kept (Bk.below F270.out HB429.out) HK440.out N22.out)
        have F445 := Ak (Bk.kept (Bk.below F271.out HB429.out) HK440.out N23.out)
        have F446 := Ak (Bk.kept (Bk.below F272.out HB429.out) HK440.out N264.out)
        have F447 := Ak (hR432)
        clear z0_ z1_ z2_ z3_ z4_ z5_ z6_ z7_ z8_ z9_ hb436 hk433 hR432
        have HM434 := Ak hm431
        clear hm431
        go_wp2_with (first | ((with_reducible refine gate_store (t := 9) (p := 76) rfl ?_); refine ev_setcell (by rfl) rfl (g := g6) (i := 5) (v := .string r430) ?hr ?_; (case hr => have hc_ : W435.cell? ⟨g6, 5, none⟩ = some (.string r88) := (Bk.cell F446.out 5).trans rfl; have hf_ := Bk.hot F446.out 5; first | (go_simp; done) | (go_simp; rfl)); intro W448 e449; have z0_ := HB0.out.size; have z1_ := HG.out; have z2_ := HG0.out; have z3_ := HF.out; have z4_ := HHI.out; have z5_ := C18.out; have z6_ := C19.out; have z7_ := C113.out; have z8_ := T441.out; have T450 := Ak (show g6 + 1 ≤ W435.heap.size from (by omega)); have HB451 := Ak (below_at HB439.out (below_setcell e449) (by show w0.heap.size ≤ g6; omega)); have HK452 := Ak (kept_set e449); have KP454 := Ak (kept_new KP442.out HK452.out (by show w.heap.size ≤ g6; omega)); have T453 := Ak (Nat.le_trans T450.out HK452.out.1); have F455 := Ak (StI.kept F443.out HK452.out (fun k_ h_ => (by obtain ⟨h1_, h2_⟩ := h_; omega))); have F456 := Ak (Bk.kept F444.out HK452.out (fun h_ => (by obtain ⟨h1_, h2_⟩ := h_; omega))); have F457 := Ak (Bk.kept F445.out HK452.out (fun h_ => (by obtain ⟨h1_, h2_⟩ := h_; omega))); have F458 := Ak (Bk.put F446.out e449 rfl); have F459 := Ak (Rd.kept F447.out HK452.out (fun h_ => (by obtain ⟨h1_, h2_⟩ := h_; omega))); clear z0_ z1_ z2_ z3_ z4_ z5_ z6_ z7_ z8_ e449) | ((with_reducible refine gate_dst (N := 89) rfl ?_); refine ev_load rfl (N := 89) rfl rfl (g := g6) rfl (cs := #[.int .i64 r9, .int .i64 n1_, .int .i64 n2_, .int .i64 r49, .int .i64 r66, .string r430]) F458.out hu52 rfl (by kernel_rfl) ?_) | ((with_reducible refine gate_store (t := 52) (p := 4) rfl ?_); refine ev_put (by rfl) rfl rfl (g := g4) rfl (cs := #[.int .i64 r9, .int .i64 n1_, .int .i64 n2_, .int .i64 r49, .int .i64 r66, .string r430]) rfl F457.out (by kernel_rfl) rfl rfl ?_; intro W460 BK461 HB462 HK463; have z0_ := HB0.out.size; have z1_ := HG.out; have z2_ := HG0.out; have z3_ := HF.out; have z4_ := HHI.out; have z5_ := C18.out; have z6_ := C19.out; have z7_ := C113.out; have z8_ := T453.out; have T464 := Ak (show g6 + 1 ≤ W448.heap.size from (by omega)); have HB465 := Ak (below_at HB451.out HB462.out (by show w0.heap.size ≤ g4; omega)); have HK466 := Ak (HK463.out); have KP468 := Ak (kept_new KP454.out HK466.out (by show w.heap.size ≤ g4; omega)); have T467 := Ak (Nat.le_trans T464.out HK466.out.1); have F469 := Ak (StI.kept F455.out HK466.out (fun k_ h_ => (by obtain ⟨h1_, h2_⟩ := h_; omega))); have F470 := Ak (Bk.kept F456.out HK466.out (fun h_ => (by obtain ⟨h1_, h2_⟩ := h_; omega))); have F471 := Ak (BK461.out); have F472 := Ak (Bk.kept F458.out HK466.out (fun h_ => (by obtain ⟨h1_, h2_⟩ := h_; omega))); have F473 := Ak (Rd.kept F459.out HK466.out (fun h_ => (by obtain ⟨h1_, h2_⟩ := h_; omega))); clear z0_ z1_ z2_ z3_ z4_ z5_ z6_ z7_ z8_))
        try go_wp2
        refine bodyPost_ret (results_cell_row rfl _ _ g4 52 #[.int .i64 r9, .int .i64 n1_, .int .i64 n2_, .int .i64 r49, .int .i64 r66, .string r430] (0, 0) _ rfl F471.out hu52 rfl (by kernel_rfl)) rfl ?_
        exact ⟨_, _, _, _, _, _, rfl, mem_small HM434.out (by decide), Rd.less F473.out (by omega), HB465.out, KP468.out⟩
       ·have d423 : (r254 == 3) = false := beq_eq_false_iff_ne.mpr c422
        have K424 := Ak c422
        clear c422
        go_upto_if 77 with (fail)
        by_cases c474 : r254 = 4
        ·have d475 : (r254 == 4) = true := beq_iff_eq.mpr c474
         have K476 := Ak c474
         clear c474
         go_wp2_with (first | ((with_reducible refine gate_dst (N := 80) rfl ?_); refine ev_lit (Kd.int .i64) 3 ?hg (N := 80) ?hd (xs := ([0, (-1), 1001] : List Int)) (inner := [.int .i64 0, .int .i64 (-1), .int .i64 1001]) ?hr (reps_int ([0, (-1), 1001] : List Int)) (by simp) ?_; (case hd => rfl); (case hg => rfl); (case hr => first | (go_simp; done) | (go_simp; rfl)); intro A477 c478 W480 HL479 HB481))
         refine (num_c (m := m + 8) (Rd.below F273.out HB481.out) (below_step HB265.out HB481.out) HL479.out.1 HL479.out.2.1 (fun ad_ e_ h_ => (by have q_ := HL479.out.2.2 ad_ e_ h_; show ad_.block ≠ g; have z0_ := HB0.out.size; have z1_ := HG.out; have z2_ := HG0.out; have z3_ := HF.out; have z4_ := HHI.out; have z5_ := C18.out; have z6_ := C19.out; have z7_ := C113.out; have z8_ := T267.out; have z9_ := HB481.out.size; omega)) (by decide)).mono ?_
         rintro e W487 ⟨r482, rfl, hm483, hR484, hb488, hk485⟩
         have z0_ := HB0.out.size
         have z1_ := HG.out
         have z2_ := HG0.out
         have z3_ := HF.out
         have z4_ := HHI.out
         have z5_ := C18.out
         have z6_ := C19.out
         have z7_ := C113.out
         have z8_ := T267.out
         have z9_ := HB481.out.size
         have T490 := Ak (show g6 + 1 ≤ W480.heap.size from (by omega))
         have HB491 := Ak (hb488)
         have HK492 := Ak (hk485)
         have KP494 := Ak (Kept.then_ (Kept.below KP268.out HB481.out) HK492.out (fun _ h_ => Or.inl h_))
         have T493 := Ak (Nat.le_trans T490.out HK492.out.1)
         have F495 := Ak (StI.kept (StI.below F269.out HB481.out) HK492.out N21.out)
         have F496 := Ak (Bk.kept (Bk.below F270.out HB481.out) HK492.out N22.out)
         have F497 := Ak (Bk.kept (Bk.below F271.out HB481.out) HK492.out N23.out)
         have F498 := Ak (Bk.kept (Bk.below F272.out HB481.out) HK492.out N264.out)
         have F499 := Ak (hR484)
         clear z0_ z1_ z2_ z3_ z4_ z5_ z6_ z7_ z8_ z9_ hb488 hk485 hR484
         have HM486 := Ak hm483
         clear hm483
         go_wp2_with (first | ((with_reducible refine gate_store (t := 3) (p := 82) rfl ?_); refine ev_setcell (by rfl) rfl (g := g6) (i := 2) (v := .int .i64 r482) ?hr ?_; (case hr => have hc_ : W487.cell? ⟨g6, 2, none⟩ = some (.int .i64 n2_) := (Bk.cell F498.out 2).trans rfl; have hf_ := Bk.hot F498.out 2; first | (go_simp; done) | (go_simp; rfl)); intro W500 e501; have z0_ := HB0.out.size; have z1_ := HG.out; have z2_ := HG0.out; have z3_ := HF.out; have z4_ := HHI.out; have z5_ := C18.out; have z6_ := C19.out; have z7_ := C113.out; have z8_ := T493.out; have T502 := Ak (show g6 + 1 ≤ W487.heap.size from (by omega)); have HB503 := Ak (below_at HB491.out (below_setcell e501) (by show w0.heap.size ≤ g6; omega)); have HK504 := Ak (kept_set e501); have KP506 := Ak (kept_new KP494.out HK504.out (by show w.heap.size ≤ g6; omega)); have T505 := Ak (Nat.le_trans T502.out HK504.out.1); have F507 := Ak (StI.kept F495.out HK504.out (fun k_ h_ => (by obtain ⟨h1_, h2_⟩ := h_; omega))); have F508 := Ak (Bk.kept F496.out HK504.out (fun h_ => (by obtain ⟨h1_, h2_⟩ := h_; omega))); have F509 := Ak (Bk.kept F497.out HK504.out (fun h_ => (by obtain ⟨h1_, h2_⟩ := h_; omega))); have F510 := Ak (Bk.put F498.out e501 rfl); have F511 := Ak (Rd.kept F499.out HK504.out (fun h_ => (by obtain ⟨h1_, h2_⟩ := h_; omega))); clear z0_ z1_ z2_ z3_ z4_ z5_ z6_ z7_ z8_ e501) | ((with_reducible refine gate_dst (N := 89) rfl ?_); refine ev_load rfl (N := 89) rfl rfl (g := g6) rfl (cs := #[.int .i64 r9, .int .i64 n1_, .int .i64 r482, .int .i64 r49, .int .i64 r66, .string r88]) F510.out hu52 rfl (by kernel_rfl) ?_) | ((with_reducible refine gate_store (t := 52) (p := 4) rfl ?_); refine ev_put (by rfl) rfl rfl (g := g4) rfl (cs := #[.int .i64 r9, .int .i64 n1_, .int .i64 r482, .int .i64 r49, .int .i64 r66, .string r88]) rfl F509.out (by kernel_rfl) rfl rfl ?_; intro W512 BK513 HB514 HK515; have z0_ := HB0.out.size; have z1_ := HG.out; have z2_ := HG0.out; have z3_ := HF.out; have z4_ := HHI.out; have z5_ := C18.out; have z6_ := C19.out; have z7_ := C113.out; have z8_ := T505.out; have T516 := Ak (show g6 + 1 ≤ W500.heap.size from (by omega)); have HB517 := Ak (below_at HB503.out HB514.out (by show w0.heap.size ≤ g4; omega)); have HK518 := Ak (HK515.out); have KP520 := Ak (kept_new KP506.out HK518.out (by show w.heap.size ≤ g4; omega)); have T519 := Ak (Nat.le_trans T516.out HK518.out.1); have F521 := Ak (StI.kept F507.out HK518.out (fun k_ h_ => (by obtain ⟨h1_, h2_⟩ := h_; omega))); have F522 := Ak (Bk.kept F508.out HK518.out (fun h_ => (by obtain ⟨h1_, h2_⟩ := h_; omega))); have F523 := Ak (BK513.out); have F524 := Ak (Bk.kept F510.out HK518.out (fun h_ => (by obtain ⟨h1_, h2_⟩ := h_; omega))); have F525 := Ak (Rd.kept F511.out HK518.out (fun h_ => (by obtain ⟨h1_, h2_⟩ := h_; omega))); clear z0_ z1_ z2_ z3_ z4_ z5_ z6_ z7_ z8_))
         try go_wp2
         refine bodyPost_ret (results_cell_row rfl _ _ g4 52 #[.int .i64 r9, .int .i64 n1_, .int .i64 r482, .int .i64 r49, .int .i64 r66, .string r88] (0, 0) _ rfl F523.out hu52 rfl (by kernel_rfl)) rfl ?_
         exact ⟨_, _, _, _, _, _, rfl, mem_small HM92.out (by decide), Rd.less F525.out (by omega), HB517.out, KP520.out⟩
        ·have d475 : (r254 == 4) = false := beq_eq_false_iff_ne.mpr c474
         have K476 := Ak c474
         clear c474
         go_upto_if 83 with (fail)
         by_cases c526 : r254 = 5
         ·have d527 : (r254 == 5) = true := beq_iff_eq.mpr c526
          have K528 := Ak c526
          clear c526
          go_wp2_with (first | ((with_reducible refine gate_dst (N := 86) rfl ?_); refine ev_lit (Kd.int .i64) 3 ?hg (N := 86) ?hd (xs := ([(-1), 101] : List Int)) (inner := [.int .i64 (-1), .int .i64 101]) ?hr (reps_int ([(-1), 101] : List Int)) (by simp) ?_; (case hd => rfl); (case hg => rfl); (case hr => first | (go_simp; done) | (go_simp; rfl)); intro A529 c530 W532 HL531 HB533))
          refine (num_c (m := m + 8) (Rd.below F273.out HB533.out) (below_step HB265.out HB533.out) HL531.out.1 HL531.out.2.1 (fun ad_ e_ h_ => (by have q_ := HL531.out.2.2 ad_ e_ h_; show ad_.block ≠ g; have z0_ := HB0.out.size; have z1_ := HG.out; have z2_ := HG0.out; have z3_ := HF.out; have z4_ := HHI.out; have z5_ := C18.out; have z6_ := C19.out; have z7_ := C113.out; have z8_ := T267.out; have z9_ := HB533.out.size; omega)) (by decide)).mono ?_
          rintro e W539 ⟨r534, rfl, hm535, hR536, hb540, hk537⟩
          have z0_ := HB0.out.size
          have z1_ := HG.out
          have z2_ := HG0.out
          have z3_ := HF.out
          have z4_ := HHI.out
          have z5_ := C18.out
          have z6_ := C19.out
          have z7_ := C113.out
          have z8_ := T267.out
          have z9_ := HB533.out.size
          have T542 := Ak (show g6 + 1 ≤ W532.heap.size from (by omega))
          have HB543 := Ak (hb540)
          have HK544 := Ak (hk537)
          have KP546 := Ak (Kept.then_ (Kept.below KP268.out HB533.out) HK544.out (fun _ h_ => Or.inl h_))
          have T545 := Ak (Nat.le_trans T542.out HK544.out.1)
          have F547 := Ak (StI.kept (StI.below F269.out HB533.out) HK544.out N21.out)
          have F548 := Ak (Bk.kept (Bk.below F270.out HB533.out) HK544.out N22.out)
          have F549 := Ak (Bk.kept (Bk.below F271.out HB533.out) HK544.out N23.out)
          have F550 := Ak (Bk.kept (Bk.below F272.out HB533.out) HK544.out N264.out)
          have F551 := Ak (hR536)
          clear z0_ z1_ z2_ z3_ z4_ z5_ z6_ z7_ z8_ z9_ hb540 hk537 hR536
          have HM538 := Ak hm535
          clear hm535
          go_wp2_with (first | ((with_reducible refine gate_store (t := 3) (p := 88) rfl ?_); refine ev_setcell (by rfl) rfl (g := g6) (i := 1) (v := .int .i64 r534) ?hr ?_; (case hr => have hc_ : W539.cell? ⟨g6, 1, none⟩ = some (.int .i64 n1_) := (Bk.cell F550.out 1).trans rfl; have hf_ := Bk.hot F550.out 1; first | (go_simp; done) | (go_simp; rfl)); intro W552 e553; have z0_ := HB0.out.size; have z1_ := HG.out; have z2_ := HG0.out; have z3_ := HF.out; have z4_ := HHI.out; have z5_ := C18.out; have z6_ := C19.out; have z7_ := C113.out; have z8_ := T545.out; have T554 := Ak (show g6 + 1 ≤ W539.heap.size from (by omega)); have HB555 := Ak (below_at HB543.out (below_setcell e553) (by show w0.heap.size ≤ g6; omega)); have HK556 := Ak (kept_set e553); have KP558 := Ak (kept_new KP546.out HK556.out (by show w.heap.size ≤ g6; omega)); have T557 := Ak (Nat.le_trans T554.out HK556.out.1); have F559 := Ak (StI.kept F547.out HK556.out (fun k_ h_ => (by obtain ⟨h1_, h2_⟩ := h_; omega))); have F560 := Ak (Bk.kept F548.out HK556.out (fun h_ => (by obtain ⟨h1_, h2_⟩ := h_; omega))); have F561 := Ak (Bk.kept F549.out HK556.out (fun h_ => (by obtain ⟨h1_, h2_⟩ := h_; omega))); have F562 := Ak (Bk.put F550.out e553 rfl); have F563 := Ak (Rd.kept F551.out HK556.out (fun h_ => (by obtain ⟨h1_, h2_⟩ := h_; omega))); clear z0_ z1_ z2_ z3_ z4_ z5_ z6_ z7_ z8_ e553) | ((with_reducible refine gate_dst (N := 89) rfl ?_); refine ev_load rfl (N := 89) rfl rfl (g := g6) rfl (cs := #[.int .i64 r9, .int .i64 r534, .int .i64 n2_, .int .i64 r49, .int .i64 r66, .string r88]) F562.out hu52 rfl (by kernel_rfl) ?_) | ((with_reducible refine gate_store (t := 52) (p := 4) rfl ?_); refine ev_put (by rfl) rfl rfl (g := g4) rfl (cs := #[.int .i64 r9, .int .i64 r534, .int .i64 n2_, .int .i64 r49, .int .i64 r66, .string r88]) rfl F561.out (by kernel_rfl) rfl rfl ?_; intro W564 BK565 HB566 HK567; have z0_ := HB0.out.size; have z1_ := HG.out; have z2_ := HG0.out; have z3_ := HF.out; have z4_ := HHI.out; have z5_ := C18.out; have z6_ := C19.out; have z7_ := C113.out; have z8_ := T557.out; have T568 := Ak (show g6 + 1 ≤ W552.heap.size from (by omega)); have HB569 := Ak (below_at HB555.out HB566.out (by show w0.heap.size ≤ g4; omega)); have HK570 := Ak (HK567.out); have KP572 := Ak (kept_new KP558.out HK570.out (by show w.heap.size ≤ g4; omega)); have T571 := Ak (Nat.le_trans T568.out HK570.out.1); have F573 := Ak (StI.kept F559.out HK570.out (fun k_ h_ => (by obtain ⟨h1_, h2_⟩ := h_; omega))); have F574 := Ak (Bk.kept F560.out HK570.out (fun h_ => (by obtain ⟨h1_, h2_⟩ := h_; omega))); have F575 := Ak (BK565.out); have F576 := Ak (Bk.kept F562.out HK570.out (fun h_ => (by obtain ⟨h1_, h2_⟩ := h_; omega))); have F577 := Ak (Rd.kept F563.out HK570.out (fun h_ => (by obtain ⟨h1_, h2_⟩ := h_; omega))); clear z0_ z1_ z2_ z3_ z4_ z5_ z6_ z7_ z8_))
          try go_wp2
          refine bodyPost_ret (results_cell_row rfl _ _ g4 52 #[.int .i64 r9, .int .i64 r534, .int .i64 n2_, .int .i64 r49, .int .i64 r66, .string r88] (0, 0) _ rfl F575.out hu52 rfl (by kernel_rfl)) rfl ?_
          exact ⟨_, _, _, _, _, _, rfl, mem_small HM92.out (by decide), Rd.less F577.out (by omega), HB569.out, KP572.out⟩
         ·have d527 : (r254 == 5) = false := beq_eq_false_iff_ne.mpr c526
          have K528 := Ak c526
          clear c526
          go_wp2_with (first | ((with_reducible refine gate_dst (N := 89) rfl ?_); refine ev_load rfl (N := 89) rfl rfl (g := g6) rfl (cs := #[.int .i64 r9, .int .i64 n1_, .int .i64 n2_, .int .i64 r49, .int .i64 r66, .string r88]) F272.out hu52 rfl (by kernel_rfl) ?_) | ((with_reducible refine gate_store (t := 52) (p := 4) rfl ?_); refine ev_put (by rfl) rfl rfl (g := g4) rfl (cs := #[.int .i64 r9, .int .i64 n1_, .int .i64 n2_, .int .i64 r49, .int .i64 r66, .string r88]) rfl F271.out (by kernel_rfl) rfl rfl ?_; intro W578 BK579 HB580 HK581; have z0_ := HB0.out.size; have z1_ := HG.out; have z2_ := HG0.out; have z3_ := HF.out; have z4_ := HHI.out; have z5_ := C18.out; have z6_ := C19.out; have z7_ := C113.out; have z8_ := T267.out; have T582 := Ak (show g6 + 1 ≤ W260.heap.size from (by omega)); have HB583 := Ak (below_at HB265.out HB580.out (by show w0.heap.size ≤ g4; omega)); have HK584 := Ak (HK581.out); have KP586 := Ak (kept_new KP268.out HK584.out (by show w.heap.size ≤ g4; omega)); have T585 := Ak (Nat.le_trans T582.out HK584.out.1); have F587 := Ak (StI.kept F269.out HK584.out (fun k_ h_ => (by obtain ⟨h1_, h2_⟩ := h_; omega))); have F588 := Ak (Bk.kept F270.out HK584.out (fun h_ => (by obtain ⟨h1_, h2_⟩ := h_; omega))); have F589 := Ak (BK579.out); have F590 := Ak (Bk.kept F272.out HK584.out (fun h_ => (by obtain ⟨h1_, h2_⟩ := h_; omega))); have F591 := Ak (Rd.kept F273.out HK584.out (fun h_ => (by obtain ⟨h1_, h2_⟩ := h_; omega))); clear z0_ z1_ z2_ z3_ z4_ z5_ z6_ z7_ z8_))
          try go_wp2
          refine bodyPost_ret (results_cell_row rfl _ _ g4 52 #[.int .i64 r9, .int .i64 n1_, .int .i64 n2_, .int .i64 r49, .int .i64 r66, .string r88] (0, 0) _ rfl F589.out hu52 rfl (by kernel_rfl)) rfl ?_
          exact ⟨_, _, _, _, _, _, rfl, mem_small HM92.out (by decide), Rd.less F591.out (by omega), HB583.out, KP586.out⟩
end Go.Proofs.Ytmekkapacbdbeaa.P
namespace Go.Proofs.Ytmekkapacbdbeaa.P
open Go.RowKit Go.Proofs.YtmekkapacbdbeaaW.PrintWords
section
variable {w w1 : World} {lo hi : Nat} {v : Value} {s : St}
theorem StR.sure_at {A : Option Addr} {n c : Nat} {u0 u2 u3 u4 : Value} (h : StR w lo hi (.agg #[u0, .slice A n c, u2, u3, u4]) s) {i : Int} (h0 : 0 ≤ i) (h1 : i < s.sure.length) :
  ∃ g, A = some ⟨g, 0, none⟩ ∧ lo ≤ g ∧ g < hi ∧ w.cell? ⟨g, i.toNat, none⟩ = some (.string (rdOf ByteArray.empty s.sure i)) ∧ w.frozen? ⟨g, i.toNat, none⟩ = false ∧ ∀ x, StR (w.setCell ⟨g, i.toNat, none⟩ (.string x)) lo hi (.agg #[u0, .slice A n c, u2, u3, u4]) { s with sure := s.sure.set i.toNat x } := by
 obtain ⟨v0, v1, v2, v3, v4, hv, r0, r1, r2, r3, r4⟩ := h
 injection hv with hv
 injection hv with hv
 injection hv with e0 hv
 injection hv with e1 hv
 injection hv with e2 hv
 injection hv with e3 hv
 injection hv with e4 hv
 subst e0 e1 e2 e3 e4
 obtain ⟨g, cap, he, hlo, hlt, cells, hg⟩ := Kd.R_form r1 (by omega)
 injection he with e1 e2 e3
 subst e1 e2 e3
 obtain ⟨hc, hf⟩ := Kd.R_cell ByteArray.empty r1 i h0 h1
 refine ⟨g, rfl, hlo, (r1.1 g rfl).1, hc, hf, fun x => ⟨_, _, _, _, _, rfl, ?_, ?_, ?_, ?_, ?_⟩⟩
 ·exact Kd.R_mono (Kd.R_far (p := ⟨g, i.toNat, none⟩) (Kd.R_mono r0 (fun k hk => (⟨hk, fun e_ => hk.2 (by rw [e_]; rfl)⟩ : _ ∧ k ≠ g))) (fun _ hk => hk.2) _) (fun _ hk => hk.1)
 ·exact (Kd.R_put r1 i x).1
 ·exact Kd.R_mono (Kd.R_far (p := ⟨g, i.toNat, none⟩) (Kd.R_types r2 hg (by decide)) (fun _ hk => hk.2) _) (fun _ hk => hk.1)
 ·exact Kd.R_mono (Kd.R_far (p := ⟨g, i.toNat, none⟩) (Kd.R_types r3 hg (by decide)) (fun _ hk => hk.2) _) (fun _ hk => hk.1)
 ·exact Kd.R_mono (Kd.R_far (p := ⟨g, i.toNat, none⟩) (Kd.R_types r4 hg (by decide)) (fun _ hk => hk.2) _) (fun _ hk => hk.1)
theorem StR.sure_form {A : Option Addr} {n c : Nat} {u0 u2 u3 u4 : Value} (h : StR w lo hi (.agg #[u0, .slice A n c, u2, u3, u4]) s) {i : Int} (h0 : 0 ≤ i) (h1 : i < s.sure.length) : ∃ g, A = some ⟨g, 0, none⟩ := by
 obtain ⟨g, e, _⟩ := h.sure_at h0 h1
 exact ⟨g, e⟩
theorem StR.sure_cell {g n c : Nat} {u0 u2 u3 u4 : Value} (h : StR w lo hi (.agg #[u0, .slice (some ⟨g, 0, none⟩) n c, u2, u3, u4]) s) {i : Int} (h0 : 0 ≤ i) (h1 : i < s.sure.length) :
  lo ≤ g ∧ g < hi ∧ w.cell? ⟨g, i.toNat, none⟩ = some (.string (rdOf ByteArray.empty s.sure i)) ∧ w.frozen? ⟨g, i.toNat, none⟩ = false ∧ ∀ x w1, w1 = w.setCell ⟨g, i.toNat, none⟩ (.string x) → StR w1 lo hi (.agg #[u0, .slice (some ⟨g, 0, none⟩) n c, u2, u3, u4]) { s with sure := s.sure.set i.toNat x } := by
 obtain ⟨g', e, r0, r1, r2, r3, r4⟩ := h.sure_at h0 h1
 cases e
 exact ⟨r0, r1, r2, r3, fun x w1 e => e ▸ r4 x⟩
theorem StR.slast_at {A : Option Addr} {n c : Nat} {u0 u1 u2 u4 : Value} (h : StR w lo hi (.agg #[u0, u1, u2, .slice A n c, u4]) s) {i : Int} (h0 : 0 ≤ i) (h1 : i < s.slast.length) :
  ∃ g, A = some ⟨g, 0, none⟩ ∧ lo ≤ g ∧ g < hi ∧ w.cell? ⟨g, i.toNat, none⟩ = some (.int .i64 (rd s.slast i)) ∧ w.frozen? ⟨g, i.toNat, none⟩ = false ∧ ∀ x, StR (w.setCell ⟨g, i.toNat, none⟩ (.int .i64 x)) lo hi (.agg #[u0, u1, u2, .slice A n c, u4]) { s with slast := s.slast.set i.toNat x } := by
 obtain ⟨v0, v1, v2, v3, v4, hv, r0, r1, r2, r3, r4⟩ := h
 injection hv with hv
 injection hv with hv
 injection hv with e0 hv
 injection hv with e1 hv
 injection hv with e2 hv
 injection hv with e3 hv
 injection hv with e4 hv
 subst e0 e1 e2 e3 e4
 obtain ⟨g, cap, he, hlo, hlt, cells, hg⟩ := Kd.R_form r3 (by omega)
 injection he with e1 e2 e3
 subst e1 e2 e3
 obtain ⟨hc, hf⟩ := Kd.R_cell 0 r3 i h0 h1
 refine ⟨g, rfl, hlo, (r3.1 g rfl).1, hc, hf, fun x => ⟨_, _, _, _, _, rfl, ?_, ?_, ?_, ?_, ?_⟩⟩
 ·exact Kd.R_mono (Kd.R_far (p := ⟨g, i.toNat, none⟩) (Kd.R_types r0 hg (by decide)) (fun _ hk => hk.2) _) (fun _ hk => hk.1)
 ·exact Kd.R_mono (Kd.R_far (p := ⟨g, i.toNat, none⟩) (Kd.R_types r1 hg (by decide)) (fun _ hk => hk.2) _) (fun _ hk => hk.1)
 ·exact Kd.R_mono (Kd.R_far (p := ⟨g, i.toNat, none⟩) (Kd.R_mono r2 (fun k hk => (⟨hk, fun e_ => hk.2.1 (by rw [e_]; rfl)⟩ : _ ∧ k ≠ g))) (fun _ hk => hk.2) _) (fun _ hk => hk.1)
 ·exact (Kd.R_put r3 i x).1
 ·exact Kd.R_mono (Kd.R_far (p := ⟨g, i.toNat, none⟩) (Kd.R_mono r4 (fun k hk => (⟨hk, fun e_ => hk.2.2 (by rw [e_]; rfl)⟩ : _ ∧ k ≠ g))) (fun _ hk => hk.2) _) (fun _ hk => hk.1)
theorem StR.slast_form {A : Option Addr} {n c : Nat} {u0 u1 u2 u4 : Value} (h : StR w lo hi (.agg #[u0, u1, u2, .slice A n c, u4]) s) {i : Int} (h0 : 0 ≤ i) (h1 : i < s.slast.length) : ∃ g, A = some ⟨g, 0, none⟩ := by
 obtain ⟨g, e, _⟩ := h.slast_at h0 h1
 exact ⟨g, e⟩
theorem StR.slast_cell {g n c : Nat} {u0 u1 u2 u4 : Value} (h : StR w lo hi (.agg #[u0, u1, u2, .slice (some ⟨g, 0, none⟩) n c, u4]) s) {i : Int} (h0 : 0 ≤ i) (h1 : i < s.slast.length) :
  lo ≤ g ∧ g < hi ∧ w.cell? ⟨g, i.toNat, none⟩ = some (.int .i64 (rd s.slast i)) ∧ w.frozen? ⟨g, i.toNat, none⟩ = false ∧ ∀ x w1, w1 = w.setCell ⟨g, i.toNat, none⟩ (.int .i64 x) → StR w1 lo hi (.agg #[u0, u1, u2, .slice (some ⟨g, 0, none⟩) n c, u4]) { s with slast := s.slast.set i.toNat x } := by
 obtain ⟨g', e, r0, r1, r2, r3, r4⟩ := h.slast_at h0 h1
 cases e
 exact ⟨r0, r1, r2, r3, fun x w1 e => e ▸ r4 x⟩
theorem StR.nil_floors {u0 u1 u2 u3 u4 : Value} (h : StR w lo hi (.agg #[u0, u1, u2, u3, u4]) s) : StR w lo hi (.agg #[u0, u1, u2, u3, .slice none 0 0]) { s with floors := [] } := by
 obtain ⟨v0, v1, v2, v3, v4, hv, r0, r1, r2, r3, r4⟩ := h
 injection hv with hv
 injection hv with hv
 injection hv with e0 hv
 injection hv with e1 hv
 injection hv with e2 hv
 injection hv with e3 hv
 injection hv with e4 hv
 subst e0 e1 e2 e3 e4
 exact ⟨_, _, _, _, _, rfl, r0, r1, Kd.R_mono r2 (fun k hk => ⟨hk.1, hk.2.1, by simp [Value.ownBlock]⟩), Kd.R_mono r3 (fun k hk => ⟨hk.1, hk.2.1, by simp [Value.ownBlock]⟩), Kd.R_nil _ _ _ _ _⟩
end
section
variable {s : St} {i : Nat} {x : Int}
theorem small_now (h : Small s) : Small { s with now := s.now.drop 1 } := ⟨by have := h.1; simp only [List.length_drop]; omega, h.2⟩
theorem small_sure {b : ByteArray} (h : Small s) : Small { s with sure := s.sure.set i b } := ⟨h.1, by simpa using h.2.1, h.2.2⟩
theorem small_last (h : Small s) : Small { s with last := s.last.set i x } := ⟨h.1, h.2.1, by simpa using h.2.2.1, h.2.2.2⟩
theorem small_slast (h : Small s) : Small { s with slast := s.slast.set i x } := ⟨h.1, h.2.1, h.2.2.1, by simpa using h.2.2.2.1, h.2.2.2.2⟩
theorem small_floors (h : Small s) : Small { s with floors := s.floors.set i x } := ⟨h.1, h.2.1, h.2.2.1, h.2.2.2.1, by simpa using h.2.2.2.2⟩
theorem small_nil (h : Small s) : Small { s with floors := [] } := ⟨h.1, h.2.1, h.2.2.1, h.2.2.2.1, by simp⟩
theorem sized_now (h : Sized s) : Sized { s with now := s.now.drop 1 } := ⟨fun y hy => h.1 y (List.mem_of_mem_drop hy), h.2⟩
theorem sized_sure {b : ByteArray} (hb : b.size ≤ 1000) (h : Sized s) : Sized { s with sure := s.sure.set i b } := ⟨h.1, fun y hy => by
 rcases List.mem_or_eq_of_mem_set hy with hy | hy
 ·exact h.2 y hy
 ·subst hy
  omega⟩
end
end Go.Proofs.Ytmekkapacbdbeaa.P
namespace Go.Proofs.Ytmekkapacbdbeaa.P
open Go.RowKit Go.Proofs.YtmekkapacbdbeaaW.PrintWords Go.Proofs.YtmekkapacbdbeaaW.PrintLast Go.Proofs.YtmekkapacbdbeaaW.PrintMore
attribute [local go_sem] max2_int min2_int max_two min_two max_three min_three max_four min_four   
set_option linter.unusedVariables false
set_option linter.unusedSimpArgs false
end Go.Proofs.Ytmekkapacbdbeaa.P
namespace Go.Proofs.Ytmekkapacbdbeaa.P
open Go.RowKit Go.Proofs.YtmekkapacbdbeaaW.PrintWords Go.Proofs.YtmekkapacbdbeaaW.PrintLast Go.Proofs.YtmekkapacbdbeaaW.PrintMore
attribute [local go_sem] max2_int min2_int max_two min_two max_three min_three max_four min_four   
set_option linter.unusedVariables false
set_option linter.unusedSimpArgs false
end Go.Proofs.Ytmekkapacbdbeaa.P
namespace Go.Proofs.Ytmekkapacbdbeaa.P
open Go.RowKit Go.Proofs.YtmekkapacbdbeaaW.PrintWords Go.Proofs.YtmekkapacbdbeaaW.PrintLast Go.Proofs.YtmekkapacbdbeaaW.PrintMore
attribute [local go_sem] max2_int min2_int max_two min_two max_three min_three max_four min_four   
set_option linter.unusedVariables false
set_option linter.unusedSimpArgs false
end Go.Proofs.Ytmekkapacbdbeaa.P
namespace Go.Proofs.Ytmekkapacbdbeaa.P
open Go.RowKit Go.Proofs.YtmekkapacbdbeaaW.PrintWords Go.Proofs.YtmekkapacbdbeaaW.PrintLast Go.Proofs.YtmekkapacbdbeaaW.PrintMore
attribute [local go_sem] max2_int min2_int max_two min_two max_three min_three max_four min_four   
set_option linter.unusedVariables false
set_option linter.unusedSimpArgs false
end Go.Proofs.Ytmekkapacbdbeaa.P
namespace Go.Proofs.Ytmekkapacbdbeaa.P
open Go.RowKit Go.Proofs.YtmekkapacbdbeaaW.PrintWords
end Go.Proofs.Ytmekkapacbdbeaa.P

namespace Go.Proofs.Ytmekkapacbdbeaa.P
open Go.RowKit Go.Proofs.YtmekkapacbdbeaaW.PrintWords Go.Proofs.YtmekkapacbdbeaaW.PrintLast Go.Proofs.YtmekkapacbdbeaaW.PrintMore
attribute [local go_sem] max2_int min2_int max_two min_two max_three min_three max_four min_four   
set_option linter.unusedVariables false
set_option linter.unusedSimpArgs false
def spec_l2Byte.f (a0 : Int) : Option (Bool) := if a0 = 46 then (some true) else (if a0 ≥ 97 then (if a0 ≤ 122 then (some true) else (if a0 ≥ 48 then (some (decide (a0 ≤ 57))) else (some false))) else (if a0 ≥ 48 then (some (decide (a0 ≤ 57))) else (some false)))
set_option maxHeartbeats 8000000 in
set_option maxRecDepth 100000 in
theorem spec_l2Byte.calls (a0 : Int) (r : Bool) (w : World) (h : spec_l2Byte.f a0 = some r) :
  Calls Try.prog 81 #[.int .u8 a0] w fun e w' => e = .returned (.bool r) ∧ Drawn0 w w' := by
 have H : (if a0 = 46 then (some true) else (if a0 ≥ 97 then (if a0 ≤ 122 then (some true) else (if a0 ≥ 48 then (some (decide (a0 ≤ 57))) else (some false))) else (if a0 ≥ 48 then (some (decide (a0 ≤ 57))) else (some false)))) = some r := h
 clear h
 by_cases c2 : a0 = 46
 ·rw [if_pos c2] at H
  have c2b0 : (a0 == 46) = true := beq_iff_eq.mpr c2
  have c2b1 : (a0 != 46) = false := bne_eq_false_iff_eq.mpr c2
  clear c2
  obtain rfl := Option.some.inj H
  go_enter Try.func81, Try.ntmps81
  go_wp2
  go_ret
  exact ⟨by first | rfl | (simp; done) | (simp [*]; done), by repeat (first | exact Drawn0.refl _ | apply Drawn0.step)⟩
 ·rw [if_neg c2] at H
  have c2b0 : (a0 == 46) = false := beq_eq_false_iff_ne.mpr c2
  have c2b1 : (a0 != 46) = true := bne_iff_ne.mpr c2
  by_cases c3 : a0 ≥ 97
  ·rw [if_pos c3] at H
   have c3b0 : decide (97 ≤ a0) = true := decide_eq_true c3
   clear c3
   by_cases c4 : a0 ≤ 122
   ·rw [if_pos c4] at H
    have c4b0 : decide (a0 ≤ 122) = true := decide_eq_true c4
    clear c4
    obtain rfl := Option.some.inj H
    go_enter Try.func81, Try.ntmps81
    go_wp2
    go_ret
    exact ⟨by first | rfl | (simp; done) | (simp [*]; done), by repeat (first | exact Drawn0.refl _ | apply Drawn0.step)⟩
   ·rw [if_neg c4] at H
    have c4b0 : decide (a0 ≤ 122) = false := decide_eq_false c4
    clear c4
    by_cases c5 : a0 ≥ 48
    ·rw [if_pos c5] at H
     have c5b0 : decide (48 ≤ a0) = true := decide_eq_true c5
     clear c5
     obtain rfl := Option.some.inj H
     go_enter Try.func81, Try.ntmps81
     go_wp2
     go_ret
     exact ⟨by first | rfl | (simp; done) | (simp [*]; done), by repeat (first | exact Drawn0.refl _ | apply Drawn0.step)⟩
    ·rw [if_neg c5] at H
     have c5b0 : decide (48 ≤ a0) = false := decide_eq_false c5
     clear c5
     obtain rfl := Option.some.inj H
     go_enter Try.func81, Try.ntmps81
     go_wp2
     go_ret
     exact ⟨by first | rfl | (simp; done) | (simp [*]; done), by repeat (first | exact Drawn0.refl _ | apply Drawn0.step)⟩
  ·rw [if_neg c3] at H
   have c3b0 : decide (97 ≤ a0) = false := decide_eq_false c3
   clear c3
   by_cases c6 : a0 ≥ 48
   ·rw [if_pos c6] at H
    have c6b0 : decide (48 ≤ a0) = true := decide_eq_true c6
    clear c6
    obtain rfl := Option.some.inj H
    go_enter Try.func81, Try.ntmps81
    go_wp2
    go_ret
    exact ⟨by first | rfl | (simp; done) | (simp [*]; done), by repeat (first | exact Drawn0.refl _ | apply Drawn0.step)⟩
   ·rw [if_neg c6] at H
    have c6b0 : decide (48 ≤ a0) = false := decide_eq_false c6
    clear c6
    obtain rfl := Option.some.inj H
    go_enter Try.func81, Try.ntmps81
    go_wp2
    go_ret
    exact ⟨by first | rfl | (simp; done) | (simp [*]; done), by repeat (first | exact Drawn0.refl _ | apply Drawn0.step)⟩
end Go.Proofs.Ytmekkapacbdbeaa.P
namespace Go.Proofs.Ytmekkapacbdbeaa.P
open Go.RowKit Go.Proofs.YtmekkapacbdbeaaW.PrintWords Go.Proofs.YtmekkapacbdbeaaW.PrintLast Go.Proofs.YtmekkapacbdbeaaW.PrintMore
attribute [local go_sem] max2_int min2_int max_two min_two max_three min_three max_four min_four   
set_option linter.unusedVariables false
set_option linter.unusedSimpArgs false
def spec_TextOk.l0 : Nat → ByteArray → Int → Option (Bool)
 | 0, _, _ => none
 | k + 1, x0, x3 => if x3 < (x0.size : Int) then (if 0 ≤ x3 then ((spec_l2Byte.f (bt x0 x3)).bind fun t201 => (if t201 = true then (spec_TextOk.l0 k x0 (wrap64 (x3 + 1))) else (some false))) else (none)) else (some (decide ((x0.size : Int) ≤ 48)))
def spec_TextOk.f (k : Nat) (a0 : ByteArray) : Option (Bool) := spec_TextOk.l0 k a0 0
set_option maxHeartbeats 8000000 in
set_option maxRecDepth 100000 in
theorem spec_TextOk.calls (k : Nat) (a0 : ByteArray) (r : Bool) (w : World) (h : spec_TextOk.f k a0 = some r) :
  Calls Try.prog 75 #[.string a0] w fun e w' => e = .returned (.bool r) ∧ Drawn0 w w' := by
 have H : (spec_TextOk.l0 k a0 0) = some r := h
 clear h
 have H' := Ak H
 clear H
 go_enter Try.func75, Try.ntmps75
 go_wp2
 go_loopg [3] k (fun kq v3 w' => ∃ (x3_1 : Int), v3 = .int .i64 x3_1 ∧ Aside0 (spec_TextOk.l0 kq a0 x3_1 = some r) ∧ Aside0 (kq ≤ k) ∧ Drawn0 w w')
 case atStart => exact ⟨(0), (by first | rfl | (simp; done) | (simp [*]; done)), H', ⟨Nat.le_refl _⟩, by repeat (first | exact Drawn0.refl _ | apply Drawn0.step)⟩
 case round =>
  clear H'
  obtain ⟨x3_1, rfl, HA, HK1, ⟨m1, rfl⟩⟩ := hrel
  cases gk with
  | zero => exact absurd HA.out (by simp [spec_TextOk.l0])
  | succ k1 =>
   have H := HA.out
   clear HA
   simp only [spec_TextOk.l0] at H
   by_cases c2 : x3_1 < (a0.size : Int)
   ·rw [if_pos c2] at H
    have c2b0 : decide (x3_1 < (a0.size : Int)) = true := decide_eq_true c2
    clear c2
    by_cases c3 : 0 ≤ x3_1
    ·rw [if_pos c3] at H
     have c3b0 : decide (0 ≤ x3_1) = true := decide_eq_true c3
     clear c3
     replace H := Option.bind_eq_some_iff.mp H
     obtain ⟨t201, A50, H⟩ := H
     replace H : (if t201 = true then (spec_TextOk.l0 k1 a0 (wrap64 (x3_1 + 1))) else (some false)) = some r := H
     have A5 := Ak A50
     clear A50
     by_cases c6 : t201 = true
     ·subst c6
      have H1 : (spec_TextOk.l0 k1 a0 (wrap64 (x3_1 + 1))) = some r := by rw [if_pos rfl] at H; exact H
      clear H
      have H := H1
      clear H1
      have H' := Ak H
      clear H
      have p4 : 0 ≤ (x3_1 : Int) := of_decide_eq_true (by first | (with_reducible assumption) | assumption)
      have q4 : x3_1 < (a0.size : Int) := of_decide_eq_true (by first | (with_reducible assumption) | assumption)
      have hx4 := bt_at a0 x3_1
      replace p4 := eq_true p4
      replace q4 := eq_true q4
      go_wp2_with (first | ((with_reducible refine gate_callee (f := 81) rfl ?_); refine goesL_ (some 13) rfl rfl Try.func81 (by kernel_rfl) rfl #[.int .u8 (bt a0 x3_1)] rfl (by (try simp only [List.map_toArray, List.map_cons, List.map_nil]); first | done | rfl | (simp only [List.length_drop, List.length_take]; rfl)) ?_; (with_reducible refine (spec_l2Byte.calls (bt a0 x3_1) true _ A5.out).mono ?_); rintro e w' ⟨rfl, ⟨nd, rfl⟩⟩; refine ⟨_, rfl, ?_⟩))
      go_roundg k1
      case measure => have := HK1.out; omega
      case rel => exact ⟨(wrap64 (x3_1 + 1)), (by first | rfl | (simp; done) | (simp [*]; done)), H', ⟨by have := HK1.out; omega⟩, by repeat (first | exact Drawn0.refl _ | apply Drawn0.step)⟩
     ·replace c6 := Bool.eq_false_iff.mpr c6
      subst c6
      have H1 : (some false) = some r := by rw [if_neg (show ¬ (false = true) by decide)] at H; exact H
      clear H
      have H := H1
      clear H1
      obtain rfl := Option.some.inj H
      have p4 : 0 ≤ (x3_1 : Int) := of_decide_eq_true (by first | (with_reducible assumption) | assumption)
      have q4 : x3_1 < (a0.size : Int) := of_decide_eq_true (by first | (with_reducible assumption) | assumption)
      have hx4 := bt_at a0 x3_1
      replace p4 := eq_true p4
      replace q4 := eq_true q4
      go_wp2_with (first | ((with_reducible refine gate_callee (f := 81) rfl ?_); refine goesL_ (some 13) rfl rfl Try.func81 (by kernel_rfl) rfl #[.int .u8 (bt a0 x3_1)] rfl (by (try simp only [List.map_toArray, List.map_cons, List.map_nil]); first | done | rfl | (simp only [List.length_drop, List.length_take]; rfl)) ?_; (with_reducible refine (spec_l2Byte.calls (bt a0 x3_1) false _ A5.out).mono ?_); rintro e w' ⟨rfl, ⟨nd, rfl⟩⟩; refine ⟨_, rfl, ?_⟩))
      go_ret
      exact ⟨by first | rfl | (simp; done) | (simp [*]; done), by repeat (first | exact Drawn0.refl _ | apply Drawn0.step)⟩
    ·rw [if_neg c3] at H
     exact absurd H (by simp)
   ·rw [if_neg c2] at H
    have c2b0 : decide (x3_1 < (a0.size : Int)) = false := decide_eq_false c2
    clear c2
    obtain rfl := Option.some.inj H
    go_wp2
    go_ret
    exact ⟨by first | rfl | (simp; done) | (simp [*]; done), by repeat (first | exact Drawn0.refl _ | apply Drawn0.step)⟩
end Go.Proofs.Ytmekkapacbdbeaa.P
namespace Go.Proofs.Ytmekkapacbdbeaa.P
open Go.RowKit Go.Proofs.YtmekkapacbdbeaaW.PrintWords Go.Proofs.YtmekkapacbdbeaaW.PrintLast Go.Proofs.YtmekkapacbdbeaaW.PrintMore
attribute [local go_sem] max2_int min2_int max_two min_two max_three min_three max_four min_four   
set_option linter.unusedVariables false
set_option linter.unusedSimpArgs false
def spec_l5Texts.l0 : Nat → List ByteArray → Int → Option (Bool)
 | 0, _, _ => none
 | k + 1, x0, x3 => if x3 < (x0.length : Int) then (if 0 ≤ x3 then ((spec_TextOk.f k (rdOf ByteArray.empty x0 x3)).bind fun t203 => (if t203 = true then (spec_l5Texts.l0 k x0 (wrap64 (x3 + 1))) else (some false))) else (none)) else (some ((x0.length : Int) == 3))
def spec_l5Texts.f (k : Nat) (l0 : List ByteArray) : Option (Bool) := spec_l5Texts.l0 k l0 0
set_option maxHeartbeats 8000000 in
set_option maxRecDepth 100000 in
theorem spec_l5Texts.calls (k : Nat) (A0 : Option Addr) (c0 : Nat) (l0 : List ByteArray) (r : Bool) (w : World) (hr0 : Kd.C Kd.string w A0 l0.length l0) (hc0 : l0.length ≤ c0) (h : spec_l5Texts.f k l0 = some r) :
  Calls Try.prog 52 #[.slice A0 l0.length c0] w fun e w' => e = .returned (.bool r) ∧ Drawn0 w w' := by
 have HR0 := Ak hr0
 have HC0 := Ak hc0
 clear hr0 hc0
 have H : (spec_l5Texts.l0 k l0 0) = some r := h
 clear h
 have H' := Ak H
 clear H
 go_enter Try.func52, Try.ntmps52
 go_wp2
 go_loopg [3] k (fun kq v3 w' => ∃ (x3_1 : Int), v3 = .int .i64 x3_1 ∧ Aside0 (spec_l5Texts.l0 kq l0 x3_1 = some r) ∧ Aside0 (kq ≤ k) ∧ Drawn0 w w')
 case atStart => exact ⟨(0), (by first | rfl | (simp; done) | (simp [*]; done)), H', ⟨Nat.le_refl _⟩, by repeat (first | exact Drawn0.refl _ | apply Drawn0.step)⟩
 case round =>
  clear H'
  obtain ⟨x3_1, rfl, HA, HK1, ⟨m1, rfl⟩⟩ := hrel
  cases gk with
  | zero => exact absurd HA.out (by simp [spec_l5Texts.l0])
  | succ k1 =>
   have H := HA.out
   clear HA
   simp only [spec_l5Texts.l0] at H
   by_cases c2 : x3_1 < (l0.length : Int)
   ·rw [if_pos c2] at H
    have c2b0 : decide (x3_1 < (l0.length : Int)) = true := decide_eq_true c2
    clear c2
    by_cases c3 : 0 ≤ x3_1
    ·rw [if_pos c3] at H
     have c3b0 : decide (0 ≤ x3_1) = true := decide_eq_true c3
     clear c3
     replace H := Option.bind_eq_some_iff.mp H
     obtain ⟨t203, A40, H⟩ := H
     replace H : (if t203 = true then (spec_l5Texts.l0 k1 l0 (wrap64 (x3_1 + 1))) else (some false)) = some r := H
     have A4 := Ak A40
     clear A40
     by_cases c5 : t203 = true
     ·subst c5
      have H1 : (spec_l5Texts.l0 k1 l0 (wrap64 (x3_1 + 1))) = some r := by rw [if_pos rfl] at H; exact H
      clear H
      have H := H1
      clear H1
      have H' := Ak H
      clear H
      have p202 : 0 ≤ (x3_1 : Int) := of_decide_eq_true (by first | (with_reducible assumption) | assumption)
      have q202 : x3_1 < (l0.length : Int) := of_decide_eq_true (by first | (with_reducible assumption) | assumption)
      obtain ⟨ad202, e202, hx202_0⟩ := Kd.at_string HR0.out x3_1 p202 q202
      cases e202
      replace p202 := eq_true p202
      replace q202 := eq_true q202
      go_wp2_with (first | ((with_reducible refine gate_callee (f := 75) rfl ?_); refine goesL_ (some 14) rfl rfl Try.func75 (by kernel_rfl) rfl #[.string (rdOf ByteArray.empty l0 x3_1)] rfl (by (try simp only [List.map_toArray, List.map_cons, List.map_nil]); first | done | rfl | (simp only [List.length_drop, List.length_take]; rfl)) ?_; (with_reducible refine (spec_TextOk.calls k1 (rdOf ByteArray.empty l0 x3_1) true _ A4.out).mono ?_); rintro e w' ⟨rfl, ⟨nd, rfl⟩⟩; refine ⟨_, rfl, ?_⟩))
      go_roundg k1
      case measure => have := HK1.out; omega
      case rel => exact ⟨(wrap64 (x3_1 + 1)), (by first | rfl | (simp; done) | (simp [*]; done)), H', ⟨by have := HK1.out; omega⟩, by repeat (first | exact Drawn0.refl _ | apply Drawn0.step)⟩
     ·replace c5 := Bool.eq_false_iff.mpr c5
      subst c5
      have H1 : (some false) = some r := by rw [if_neg (show ¬ (false = true) by decide)] at H; exact H
      clear H
      have H := H1
      clear H1
      obtain rfl := Option.some.inj H
      have p202 : 0 ≤ (x3_1 : Int) := of_decide_eq_true (by first | (with_reducible assumption) | assumption)
      have q202 : x3_1 < (l0.length : Int) := of_decide_eq_true (by first | (with_reducible assumption) | assumption)
      obtain ⟨ad202, e202, hx202_0⟩ := Kd.at_string HR0.out x3_1 p202 q202
      cases e202
      replace p202 := eq_true p202
      replace q202 := eq_true q202
      go_wp2_with (first | ((with_reducible refine gate_callee (f := 75) rfl ?_); refine goesL_ (some 14) rfl rfl Try.func75 (by kernel_rfl) rfl #[.string (rdOf ByteArray.empty l0 x3_1)] rfl (by (try simp only [List.map_toArray, List.map_cons, List.map_nil]); first | done | rfl | (simp only [List.length_drop, List.length_take]; rfl)) ?_; (with_reducible refine (spec_TextOk.calls k1 (rdOf ByteArray.empty l0 x3_1) false _ A4.out).mono ?_); rintro e w' ⟨rfl, ⟨nd, rfl⟩⟩; refine ⟨_, rfl, ?_⟩))
      go_ret
      exact ⟨by first | rfl | (simp; done) | (simp [*]; done), by repeat (first | exact Drawn0.refl _ | apply Drawn0.step)⟩
    ·rw [if_neg c3] at H
     exact absurd H (by simp)
   ·rw [if_neg c2] at H
    have c2b0 : decide (x3_1 < (l0.length : Int)) = false := decide_eq_false c2
    clear c2
    obtain rfl := Option.some.inj H
    go_wp2
    go_ret
    exact ⟨by first | rfl | (simp; done) | (simp [*]; done), by repeat (first | exact Drawn0.refl _ | apply Drawn0.step)⟩
end Go.Proofs.Ytmekkapacbdbeaa.P
namespace Go.Proofs.Ytmekkapacbdbeaa.P
open Go.RowKit Go.Proofs.YtmekkapacbdbeaaW.PrintWords Go.Proofs.YtmekkapacbdbeaaW.PrintLast Go.Proofs.YtmekkapacbdbeaaW.PrintMore
attribute [local go_sem] max2_int min2_int max_two min_two max_three min_three max_four min_four   
set_option linter.unusedVariables false
set_option linter.unusedSimpArgs false
mutual
def spec_StoreOk.j0 : Nat → Bool → List ByteArray → List ByteArray → List Int → List Int → List Int → Option (Bool)
 | 0, _, _, _, _, _, _ => none
 | k + 1, x31, x205000, x205001, x205002, x205003, x205004 => if x31 = true then (some false) else (spec_StoreOk.l0 k 0 x205000 x205001 x205002 x205003 x205004)
def spec_StoreOk.l0 : Nat → Int → List ByteArray → List ByteArray → List Int → List Int → List Int → Option (Bool)
 | 0, _, _, _, _, _, _ => none
 | k + 1, x3, x205000, x205001, x205002, x205003, x205004 => if x3 < 3 then (if 0 ≤ x3 then (if x3 < (x205003.length : Int) then (if (rd x205003 x3) < 0 then (some false) else (if x3 < (x205002.length : Int) then (if (rd x205003 x3) > (rd x205002 x3) then (some false) else (if (rd x205002 x3) > 1000 then (some false) else (if x3 < (x205004.length : Int) then (if (rd x205004 x3) < 0 then (some false) else (if (rd x205004 x3) > 100 then (some false) else (spec_StoreOk.l0 k (wrap64 (x3 + 1)) x205000 x205001 x205002 x205003 x205004))) else (none)))) else (none))) else (none)) else (none)) else (some true)
end
def spec_StoreOk.f (k : Nat) (l0_0 : List ByteArray) (l0_1 : List ByteArray) (l0_2 : List Int) (l0_3 : List Int) (l0_4 : List Int) : Option (Bool) := (spec_l5Texts.f k l0_0).bind fun t205 => (if t205 = true then ((spec_l5Texts.f k l0_1).bind fun t206 => (if t206 = true then (if (l0_2.length : Int) = 3 then (if (l0_3.length : Int) = 3 then (spec_StoreOk.j0 k ((l0_4.length : Int) != 3) l0_0 l0_1 l0_2 l0_3 l0_4) else (spec_StoreOk.j0 k true l0_0 l0_1 l0_2 l0_3 l0_4)) else (spec_StoreOk.j0 k true l0_0 l0_1 l0_2 l0_3 l0_4)) else (spec_StoreOk.j0 k true l0_0 l0_1 l0_2 l0_3 l0_4))) else (spec_StoreOk.j0 k true l0_0 l0_1 l0_2 l0_3 l0_4))
set_option maxHeartbeats 8000000 in
set_option maxRecDepth 100000 in
theorem spec_StoreOk.calls (k : Nat) (A0_0 : Option Addr) (c0_0 : Nat) (l0_0 : List ByteArray) (A0_1 : Option Addr) (c0_1 : Nat) (l0_1 : List ByteArray) (A0_2 : Option Addr) (c0_2 : Nat) (l0_2 : List Int) (A0_3 : Option Addr) (c0_3 : Nat) (l0_3 : List Int) (A0_4 : Option Addr) (c0_4 : Nat) (l0_4 : List Int) (r : Bool) (w : World) (hr0_0 : Kd.C Kd.string w A0_0 l0_0.length l0_0) (hc0_0 : l0_0.length ≤ c0_0) (hr0_1 : Kd.C Kd.string w A0_1 l0_1.length l0_1) (hc0_1 : l0_1.length ≤ c0_1) (hr0_2 : Kd.C (Kd.int .i64) w A0_2 l0_2.length l0_2) (hc0_2 : l0_2.length ≤ c0_2) (hr0_3 : Kd.C (Kd.int .i64) w A0_3 l0_3.length l0_3) (hc0_3 : l0_3.length ≤ c0_3) (hr0_4 : Kd.C (Kd.int .i64) w A0_4 l0_4.length l0_4) (hc0_4 : l0_4.length ≤ c0_4) (h : spec_StoreOk.f k l0_0 l0_1 l0_2 l0_3 l0_4 = some r) :
  Calls Try.prog 19 #[.agg #[.slice A0_0 l0_0.length c0_0, .slice A0_1 l0_1.length c0_1, .slice A0_2 l0_2.length c0_2, .slice A0_3 l0_3.length c0_3, .slice A0_4 l0_4.length c0_4]] w fun e w' => e = .returned (.bool r) ∧ Below w.heap.size w w' := by
 have hu26 := Try.underlying26
 have HR0_0 := Ak hr0_0
 have HC0_0 := Ak hc0_0
 clear hr0_0 hc0_0
 have HR0_1 := Ak hr0_1
 have HC0_1 := Ak hc0_1
 clear hr0_1 hc0_1
 have HR0_2 := Ak hr0_2
 have HC0_2 := Ak hc0_2
 clear hr0_2 hc0_2
 have HR0_3 := Ak hr0_3
 have HC0_3 := Ak hc0_3
 clear hr0_3 hc0_3
 have HR0_4 := Ak hr0_4
 have HC0_4 := Ak hc0_4
 clear hr0_4 hc0_4
 have HB := Ak (Below.refl w.heap.size w)
 have H : ((spec_l5Texts.f k l0_0).bind fun t205 => (if t205 = true then ((spec_l5Texts.f k l0_1).bind fun t206 => (if t206 = true then (if (l0_2.length : Int) = 3 then (if (l0_3.length : Int) = 3 then (spec_StoreOk.j0 k ((l0_4.length : Int) != 3) l0_0 l0_1 l0_2 l0_3 l0_4) else (spec_StoreOk.j0 k true l0_0 l0_1 l0_2 l0_3 l0_4)) else (spec_StoreOk.j0 k true l0_0 l0_1 l0_2 l0_3 l0_4)) else (spec_StoreOk.j0 k true l0_0 l0_1 l0_2 l0_3 l0_4))) else (spec_StoreOk.j0 k true l0_0 l0_1 l0_2 l0_3 l0_4))) = some r := h
 clear h
 have HC2 := Ak H
 clear H
 go_enter Try.func19, Try.ntmps19
 go_upto_region 1 with (first | ((with_reducible refine gate_dst (N := 1) rfl ?_); (try (refine gate_guard (by rfl) ?_; dsimp only)); refine box_event ?hg (N := 1) ?hd (cs := #[.slice A0_0 l0_0.length c0_0, .slice A0_1 l0_1.length c0_1, .slice A0_2 l0_2.length c0_2, .slice A0_3 l0_3.length c0_3, .slice A0_4 l0_4.length c0_4]) (t := 26) ?hr ?_; (case hd => rfl); (case hg => rfl); (case hr => first | (go_simp; done) | (go_simp; rfl)); intro gb204 hg w3 hbox hb; have n0_ := Ak (below_step (by repeat (first | (with_reducible first | exact HB.out | apply below_alloc | apply pw_below_drewN | apply below_drew1) | exact HB.out)) hb); have n1_ := Ak (hbox); have n2_ := Ak ((by rw [hg]; exact (below_size (by repeat (first | (with_reducible first | exact HB.out | apply below_alloc | apply pw_below_drewN | apply below_drew1) | exact HB.out))) : w.heap.size ≤ gb204)); have n3_ := Ak ((by rw [hg]; exact (below_size (by repeat (first | (with_reducible first | exact HB.out | apply below_alloc | apply pw_below_drewN | apply below_drew1) | exact HB.out))) : w.heap.size ≤ gb204)); clear HB; have HB := n0_; have BK204 := n1_; have GW204 := n2_; have GE204 := n3_; clear n0_ n1_ n2_ n3_; clear hb hbox hg))
 repeat (go_quiet (first | ((with_reducible refine gate_dst (N := 1) rfl ?_); (try (refine gate_guard (by rfl) ?_; dsimp only)); refine box_event ?hg (N := 1) ?hd (cs := #[.slice A0_0 l0_0.length c0_0, .slice A0_1 l0_1.length c0_1, .slice A0_2 l0_2.length c0_2, .slice A0_3 l0_3.length c0_3, .slice A0_4 l0_4.length c0_4]) (t := 26) ?hr ?_; (case hd => rfl); (case hg => rfl); (case hr => first | (go_simp; done) | (go_simp; rfl)); intro gb204 hg w3 hbox hb; have n0_ := Ak (below_step (by repeat (first | (with_reducible first | exact HB.out | apply below_alloc | apply pw_below_drewN | apply below_drew1) | exact HB.out)) hb); have n1_ := Ak (hbox); have n2_ := Ak ((by rw [hg]; exact (below_size (by repeat (first | (with_reducible first | exact HB.out | apply below_alloc | apply pw_below_drewN | apply below_drew1) | exact HB.out))) : w.heap.size ≤ gb204)); have n3_ := Ak ((by rw [hg]; exact (below_size (by repeat (first | (with_reducible first | exact HB.out | apply below_alloc | apply pw_below_drewN | apply below_drew1) | exact HB.out))) : w.heap.size ≤ gb204)); clear HB; have HB := n0_; have BK204 := n1_; have GW204 := n2_; have GE204 := n3_; clear n0_ n1_ n2_ n3_; clear hb hbox hg)); go_upto_region 1 with (first | ((with_reducible refine gate_dst (N := 1) rfl ?_); (try (refine gate_guard (by rfl) ?_; dsimp only)); refine box_event ?hg (N := 1) ?hd (cs := #[.slice A0_0 l0_0.length c0_0, .slice A0_1 l0_1.length c0_1, .slice A0_2 l0_2.length c0_2, .slice A0_3 l0_3.length c0_3, .slice A0_4 l0_4.length c0_4]) (t := 26) ?hr ?_; (case hd => rfl); (case hg => rfl); (case hr => first | (go_simp; done) | (go_simp; rfl)); intro gb204 hg w3 hbox hb; have n0_ := Ak (below_step (by repeat (first | (with_reducible first | exact HB.out | apply below_alloc | apply pw_below_drewN | apply below_drew1) | exact HB.out)) hb); have n1_ := Ak (hbox); have n2_ := Ak ((by rw [hg]; exact (below_size (by repeat (first | (with_reducible first | exact HB.out | apply below_alloc | apply pw_below_drewN | apply below_drew1) | exact HB.out))) : w.heap.size ≤ gb204)); have n3_ := Ak ((by rw [hg]; exact (below_size (by repeat (first | (with_reducible first | exact HB.out | apply below_alloc | apply pw_below_drewN | apply below_drew1) | exact HB.out))) : w.heap.size ≤ gb204)); clear HB; have HB := n0_; have BK204 := n1_; have GW204 := n2_; have GE204 := n3_; clear n0_ n1_ n2_ n3_; clear hb hbox hg)))
 (try simp only [Act.put, List.setIfInBounds_toArray, List.set_cons_zero, List.set_cons_succ])
 go_cut [31] (fun v31 wc => ∃ (kq : Nat) (x31_1 : Bool), v31 = .bool x31_1 ∧ Aside0 (spec_StoreOk.j0 kq x31_1 l0_0 l0_1 l0_2 l0_3 l0_4 = some r) ∧ Aside0 (kq ≤ k) ∧ Aside0 (wc.heap[gb204]? = some (.cells #[(.slice A0_0 l0_0.length c0_0), (.slice A0_1 l0_1.length c0_1), (.slice A0_2 l0_2.length c0_2), (.slice A0_3 l0_3.length c0_3), (.slice A0_4 l0_4.length c0_4)] 26 (0, 0))) ∧ Aside0 (Below w.heap.size w wc))
 case first =>
  have H := HC2.out
  clear HC2
  replace H := Option.bind_eq_some_iff.mp H
  obtain ⟨t205, A40, H⟩ := H
  replace H : (if t205 = true then ((spec_l5Texts.f k l0_1).bind fun t206 => (if t206 = true then (if (l0_2.length : Int) = 3 then (if (l0_3.length : Int) = 3 then (spec_StoreOk.j0 k ((l0_4.length : Int) != 3) l0_0 l0_1 l0_2 l0_3 l0_4) else (spec_StoreOk.j0 k true l0_0 l0_1 l0_2 l0_3 l0_4)) else (spec_StoreOk.j0 k true l0_0 l0_1 l0_2 l0_3 l0_4)) else (spec_StoreOk.j0 k true l0_0 l0_1 l0_2 l0_3 l0_4))) else (spec_StoreOk.j0 k true l0_0 l0_1 l0_2 l0_3 l0_4)) = some r := H
  have A4 := Ak A40
  clear A40
  by_cases c5 : t205 = true
  ·subst c5
   have H1 : ((spec_l5Texts.f k l0_1).bind fun t206 => (if t206 = true then (if (l0_2.length : Int) = 3 then (if (l0_3.length : Int) = 3 then (spec_StoreOk.j0 k ((l0_4.length : Int) != 3) l0_0 l0_1 l0_2 l0_3 l0_4) else (spec_StoreOk.j0 k true l0_0 l0_1 l0_2 l0_3 l0_4)) else (spec_StoreOk.j0 k true l0_0 l0_1 l0_2 l0_3 l0_4)) else (spec_StoreOk.j0 k true l0_0 l0_1 l0_2 l0_3 l0_4))) = some r := by rw [if_pos rfl] at H; exact H
   clear H
   have H := H1
   clear H1
   replace H := Option.bind_eq_some_iff.mp H
   obtain ⟨t206, A60, H⟩ := H
   replace H : (if t206 = true then (if (l0_2.length : Int) = 3 then (if (l0_3.length : Int) = 3 then (spec_StoreOk.j0 k ((l0_4.length : Int) != 3) l0_0 l0_1 l0_2 l0_3 l0_4) else (spec_StoreOk.j0 k true l0_0 l0_1 l0_2 l0_3 l0_4)) else (spec_StoreOk.j0 k true l0_0 l0_1 l0_2 l0_3 l0_4)) else (spec_StoreOk.j0 k true l0_0 l0_1 l0_2 l0_3 l0_4)) = some r := H
   have A6 := Ak A60
   clear A60
   by_cases c7 : t206 = true
   ·subst c7
    have H1 : (if (l0_2.length : Int) = 3 then (if (l0_3.length : Int) = 3 then (spec_StoreOk.j0 k ((l0_4.length : Int) != 3) l0_0 l0_1 l0_2 l0_3 l0_4) else (spec_StoreOk.j0 k true l0_0 l0_1 l0_2 l0_3 l0_4)) else (spec_StoreOk.j0 k true l0_0 l0_1 l0_2 l0_3 l0_4)) = some r := by rw [if_pos rfl] at H; exact H
    clear H
    have H := H1
    clear H1
    by_cases c8 : (l0_2.length : Int) = 3
    ·rw [if_pos c8] at H
     have c8b0 : ((l0_2.length : Int) == 3) = true := beq_iff_eq.mpr c8
     have c8b1 : ((l0_2.length : Int) != 3) = false := bne_eq_false_iff_eq.mpr c8
     clear c8
     (first | rw [c8b0] | (simp only [i64_w, i32_w]; rw [c8b0]) | skip)
     by_cases c9 : (l0_3.length : Int) = 3
     ·rw [if_pos c9] at H
      have c9b0 : ((l0_3.length : Int) == 3) = true := beq_iff_eq.mpr c9
      have c9b1 : ((l0_3.length : Int) != 3) = false := bne_eq_false_iff_eq.mpr c9
      clear c9
      have H' := Ak H
      clear H
      have hcz10_0 : w3.cell? ⟨gb204, 0, none⟩ = some (.slice A0_0 l0_0.length c0_0) := (blk_cell BK204.out 0).trans rfl
      have hcz10_1 : w3.cell? ⟨gb204, 1, none⟩ = some (.slice A0_1 l0_1.length c0_1) := (blk_cell BK204.out 1).trans rfl
      have hcz10_2 : w3.cell? ⟨gb204, 2, none⟩ = some (.slice A0_2 l0_2.length c0_2) := (blk_cell BK204.out 2).trans rfl
      have hcz10_3 : w3.cell? ⟨gb204, 3, none⟩ = some (.slice A0_3 l0_3.length c0_3) := (blk_cell BK204.out 3).trans rfl
      have hcz10_4 : w3.cell? ⟨gb204, 4, none⟩ = some (.slice A0_4 l0_4.length c0_4) := (blk_cell BK204.out 4).trans rfl
      have hfz10_0 := blk_frozen BK204.out 0
      have hfz10_1 := blk_frozen BK204.out 1
      have hfz10_2 := blk_frozen BK204.out 2
      have hfz10_3 := blk_frozen BK204.out 3
      have hfz10_4 := blk_frozen BK204.out 4
      go_wp2_with (first | (go_at_call 52; (with_reducible refine (spec_l5Texts.calls k _ _ l0_0 true _ ?side1 ?side2 A4.out).mono ?_); (case side1 => repeat (first | exact (Kd.C_below HR0_0.out HB.out) | (with_reducible refine Kd.C_alloc ?_ _) | (with_reducible refine Kd.C_drewN ?_ _) | (with_reducible refine Kd.C_drew ?_))); (case side2 => exact HC0_0.out); rintro e w' ⟨rfl, ⟨nd, rfl⟩⟩; (try first | exact ⟨rfl, _, World.drewN_drewN _ _ _⟩ | exact ⟨rfl, _, Eq.trans (World.drewN_drewN _ _ _) (congrArg (World.drewN _) (Nat.add_assoc _ _ _))⟩)) | (go_at_call 52; (with_reducible refine (spec_l5Texts.calls k _ _ l0_1 true _ ?side1 ?side2 A6.out).mono ?_); (case side1 => repeat (first | exact (Kd.C_below HR0_1.out (by repeat (first | (with_reducible first | exact HB.out | apply below_alloc | apply pw_below_drewN | apply below_drew1 | refine below_set ?_ GE204.out) | exact HB.out))) | (with_reducible refine Kd.C_alloc ?_ _) | (with_reducible refine Kd.C_drewN ?_ _) | (with_reducible refine Kd.C_drew ?_))); (case side2 => exact HC0_1.out); rintro e w' ⟨rfl, ⟨nd, rfl⟩⟩; (try first | exact ⟨rfl, _, World.drewN_drewN _ _ _⟩ | exact ⟨rfl, _, Eq.trans (World.drewN_drewN _ _ _) (congrArg (World.drewN _) (Nat.add_assoc _ _ _))⟩)))
      repeat (go_quiet (first | (go_at_call 52; (with_reducible refine (spec_l5Texts.calls k _ _ l0_0 true _ ?side1 ?side2 A4.out).mono ?_); (case side1 => repeat (first | exact (Kd.C_below HR0_0.out HB.out) | (with_reducible refine Kd.C_alloc ?_ _) | (with_reducible refine Kd.C_drewN ?_ _) | (with_reducible refine Kd.C_drew ?_))); (case side2 => exact HC0_0.out); rintro e w' ⟨rfl, ⟨nd, rfl⟩⟩; (try first | exact ⟨rfl, _, World.drewN_drewN _ _ _⟩ | exact ⟨rfl, _, Eq.trans (World.drewN_drewN _ _ _) (congrArg (World.drewN _) (Nat.add_assoc _ _ _))⟩)) | (go_at_call 52; (with_reducible refine (spec_l5Texts.calls k _ _ l0_1 true _ ?side1 ?side2 A6.out).mono ?_); (case side1 => repeat (first | exact (Kd.C_below HR0_1.out (by repeat (first | (with_reducible first | exact HB.out | apply below_alloc | apply pw_below_drewN | apply below_drew1 | refine below_set ?_ GE204.out) | exact HB.out))) | (with_reducible refine Kd.C_alloc ?_ _) | (with_reducible refine Kd.C_drewN ?_ _) | (with_reducible refine Kd.C_drew ?_))); (case side2 => exact HC0_1.out); rintro e w' ⟨rfl, ⟨nd, rfl⟩⟩; (try first | exact ⟨rfl, _, World.drewN_drewN _ _ _⟩ | exact ⟨rfl, _, Eq.trans (World.drewN_drewN _ _ _) (congrArg (World.drewN _) (Nat.add_assoc _ _ _))⟩))); try go_wp2_with (first | (go_at_call 52; (with_reducible refine (spec_l5Texts.calls k _ _ l0_0 true _ ?side1 ?side2 A4.out).mono ?_); (case side1 => repeat (first | exact (Kd.C_below HR0_0.out HB.out) | (with_reducible refine Kd.C_alloc ?_ _) | (with_reducible refine Kd.C_drewN ?_ _) | (with_reducible refine Kd.C_drew ?_))); (case side2 => exact HC0_0.out); rintro e w' ⟨rfl, ⟨nd, rfl⟩⟩; (try first | exact ⟨rfl, _, World.drewN_drewN _ _ _⟩ | exact ⟨rfl, _, Eq.trans (World.drewN_drewN _ _ _) (congrArg (World.drewN _) (Nat.add_assoc _ _ _))⟩)) | (go_at_call 52; (with_reducible refine (spec_l5Texts.calls k _ _ l0_1 true _ ?side1 ?side2 A6.out).mono ?_); (case side1 => repeat (first | exact (Kd.C_below HR0_1.out (by repeat (first | (with_reducible first | exact HB.out | apply below_alloc | apply pw_below_drewN | apply below_drew1 | refine below_set ?_ GE204.out) | exact HB.out))) | (with_reducible refine Kd.C_alloc ?_ _) | (with_reducible refine Kd.C_drewN ?_ _) | (with_reducible refine Kd.C_drew ?_))); (case side2 => exact HC0_1.out); rintro e w' ⟨rfl, ⟨nd, rfl⟩⟩; (try first | exact ⟨rfl, _, World.drewN_drewN _ _ _⟩ | exact ⟨rfl, _, Eq.trans (World.drewN_drewN _ _ _) (congrArg (World.drewN _) (Nat.add_assoc _ _ _))⟩))))
      go_meet
      case rel => exact ⟨_, (((l0_4.length : Int) != 3)), (by first | rfl | (simp; done) | (simp [*]; done)), H', ⟨by first | omega | exact Nat.le_refl _⟩, ⟨by (with_reducible repeat (first | refine blk_drewN ?_ _ | refine blk_drew ?_ | refine blk_alloc ?_ _)); exact BK204.out⟩, ⟨by repeat (first | (with_reducible first | exact HB.out | apply below_alloc | apply pw_below_drewN | apply below_drew1 | refine below_set ?_ GE204.out) | exact HB.out)⟩⟩
     ·rw [if_neg c9] at H
      have c9b0 : ((l0_3.length : Int) == 3) = false := beq_eq_false_iff_ne.mpr c9
      have c9b1 : ((l0_3.length : Int) != 3) = true := bne_iff_ne.mpr c9
      have H' := Ak H
      clear H
      have hcz11_0 : w3.cell? ⟨gb204, 0, none⟩ = some (.slice A0_0 l0_0.length c0_0) := (blk_cell BK204.out 0).trans rfl
      have hcz11_1 : w3.cell? ⟨gb204, 1, none⟩ = some (.slice A0_1 l0_1.length c0_1) := (blk_cell BK204.out 1).trans rfl
      have hcz11_2 : w3.cell? ⟨gb204, 2, none⟩ = some (.slice A0_2 l0_2.length c0_2) := (blk_cell BK204.out 2).trans rfl
      have hcz11_3 : w3.cell? ⟨gb204, 3, none⟩ = some (.slice A0_3 l0_3.length c0_3) := (blk_cell BK204.out 3).trans rfl
      have hcz11_4 : w3.cell? ⟨gb204, 4, none⟩ = some (.slice A0_4 l0_4.length c0_4) := (blk_cell BK204.out 4).trans rfl
      have hfz11_0 := blk_frozen BK204.out 0
      have hfz11_1 := blk_frozen BK204.out 1
      have hfz11_2 := blk_frozen BK204.out 2
      have hfz11_3 := blk_frozen BK204.out 3
      have hfz11_4 := blk_frozen BK204.out 4
      go_wp2_with (first | (go_at_call 52; (with_reducible refine (spec_l5Texts.calls k _ _ l0_0 true _ ?side1 ?side2 A4.out).mono ?_); (case side1 => repeat (first | exact (Kd.C_below HR0_0.out HB.out) | (with_reducible refine Kd.C_alloc ?_ _) | (with_reducible refine Kd.C_drewN ?_ _) | (with_reducible refine Kd.C_drew ?_))); (case side2 => exact HC0_0.out); rintro e w' ⟨rfl, ⟨nd, rfl⟩⟩; (try first | exact ⟨rfl, _, World.drewN_drewN _ _ _⟩ | exact ⟨rfl, _, Eq.trans (World.drewN_drewN _ _ _) (congrArg (World.drewN _) (Nat.add_assoc _ _ _))⟩)) | (go_at_call 52; (with_reducible refine (spec_l5Texts.calls k _ _ l0_1 true _ ?side1 ?side2 A6.out).mono ?_); (case side1 => repeat (first | exact (Kd.C_below HR0_1.out (by repeat (first | (with_reducible first | exact HB.out | apply below_alloc | apply pw_below_drewN | apply below_drew1 | refine below_set ?_ GE204.out) | exact HB.out))) | (with_reducible refine Kd.C_alloc ?_ _) | (with_reducible refine Kd.C_drewN ?_ _) | (with_reducible refine Kd.C_drew ?_))); (case side2 => exact HC0_1.out); rintro e w' ⟨rfl, ⟨nd, rfl⟩⟩; (try first | exact ⟨rfl, _, World.drewN_drewN _ _ _⟩ | exact ⟨rfl, _, Eq.trans (World.drewN_drewN _ _ _) (congrArg (World.drewN _) (Nat.add_assoc _ _ _))⟩)))
      repeat (go_quiet (first | (go_at_call 52; (with_reducible refine (spec_l5Texts.calls k _ _ l0_0 true _ ?side1 ?side2 A4.out).mono ?_); (case side1 => repeat (first | exact (Kd.C_below HR0_0.out HB.out) | (with_reducible refine Kd.C_alloc ?_ _) | (with_reducible refine Kd.C_drewN ?_ _) | (with_reducible refine Kd.C_drew ?_))); (case side2 => exact HC0_0.out); rintro e w' ⟨rfl, ⟨nd, rfl⟩⟩; (try first | exact ⟨rfl, _, World.drewN_drewN _ _ _⟩ | exact ⟨rfl, _, Eq.trans (World.drewN_drewN _ _ _) (congrArg (World.drewN _) (Nat.add_assoc _ _ _))⟩)) | (go_at_call 52; (with_reducible refine (spec_l5Texts.calls k _ _ l0_1 true _ ?side1 ?side2 A6.out).mono ?_); (case side1 => repeat (first | exact (Kd.C_below HR0_1.out (by repeat (first | (with_reducible first | exact HB.out | apply below_alloc | apply pw_below_drewN | apply below_drew1 | refine below_set ?_ GE204.out) | exact HB.out))) | (with_reducible refine Kd.C_alloc ?_ _) | (with_reducible refine Kd.C_drewN ?_ _) | (with_reducible refine Kd.C_drew ?_))); (case side2 => exact HC0_1.out); rintro e w' ⟨rfl, ⟨nd, rfl⟩⟩; (try first | exact ⟨rfl, _, World.drewN_drewN _ _ _⟩ | exact ⟨rfl, _, Eq.trans (World.drewN_drewN _ _ _) (congrArg (World.drewN _) (Nat.add_assoc _ _ _))⟩))); try go_wp2_with (first | (go_at_call 52; (with_reducible refine (spec_l5Texts.calls k _ _ l0_0 true _ ?side1 ?side2 A4.out).mono ?_); (case side1 => repeat (first | exact (Kd.C_below HR0_0.out HB.out) | (with_reducible refine Kd.C_alloc ?_ _) | (with_reducible refine Kd.C_drewN ?_ _) | (with_reducible refine Kd.C_drew ?_))); (case side2 => exact HC0_0.out); rintro e w' ⟨rfl, ⟨nd, rfl⟩⟩; (try first | exact ⟨rfl, _, World.drewN_drewN _ _ _⟩ | exact ⟨rfl, _, Eq.trans (World.drewN_drewN _ _ _) (congrArg (World.drewN _) (Nat.add_assoc _ _ _))⟩)) | (go_at_call 52; (with_reducible refine (spec_l5Texts.calls k _ _ l0_1 true _ ?side1 ?side2 A6.out).mono ?_); (case side1 => repeat (first | exact (Kd.C_below HR0_1.out (by repeat (first | (with_reducible first | exact HB.out | apply below_alloc | apply pw_below_drewN | apply below_drew1 | refine below_set ?_ GE204.out) | exact HB.out))) | (with_reducible refine Kd.C_alloc ?_ _) | (with_reducible refine Kd.C_drewN ?_ _) | (with_reducible refine Kd.C_drew ?_))); (case side2 => exact HC0_1.out); rintro e w' ⟨rfl, ⟨nd, rfl⟩⟩; (try first | exact ⟨rfl, _, World.drewN_drewN _ _ _⟩ | exact ⟨rfl, _, Eq.trans (World.drewN_drewN _ _ _) (congrArg (World.drewN _) (Nat.add_assoc _ _ _))⟩))))
      go_meet
      case rel => exact ⟨_, (true), (by first | rfl | (simp; done) | (simp [*]; done)), H', ⟨by first | omega | exact Nat.le_refl _⟩, ⟨by (with_reducible repeat (first | refine blk_drewN ?_ _ | refine blk_drew ?_ | refine blk_alloc ?_ _)); exact BK204.out⟩, ⟨by repeat (first | (with_reducible first | exact HB.out | apply below_alloc | apply pw_below_drewN | apply below_drew1 | refine below_set ?_ GE204.out) | exact HB.out)⟩⟩
    ·rw [if_neg c8] at H
     have c8b0 : ((l0_2.length : Int) == 3) = false := beq_eq_false_iff_ne.mpr c8
     have c8b1 : ((l0_2.length : Int) != 3) = true := bne_iff_ne.mpr c8
     (first | rw [c8b0] | (simp only [i64_w, i32_w]; rw [c8b0]) | skip)
     have H' := Ak H
     clear H
     have hcz12_0 : w3.cell? ⟨gb204, 0, none⟩ = some (.slice A0_0 l0_0.length c0_0) := (blk_cell BK204.out 0).trans rfl
     have hcz12_1 : w3.cell? ⟨gb204, 1, none⟩ = some (.slice A0_1 l0_1.length c0_1) := (blk_cell BK204.out 1).trans rfl
     have hcz12_2 : w3.cell? ⟨gb204, 2, none⟩ = some (.slice A0_2 l0_2.length c0_2) := (blk_cell BK204.out 2).trans rfl
     have hcz12_3 : w3.cell? ⟨gb204, 3, none⟩ = some (.slice A0_3 l0_3.length c0_3) := (blk_cell BK204.out 3).trans rfl
     have hcz12_4 : w3.cell? ⟨gb204, 4, none⟩ = some (.slice A0_4 l0_4.length c0_4) := (blk_cell BK204.out 4).trans rfl
     have hfz12_0 := blk_frozen BK204.out 0
     have hfz12_1 := blk_frozen BK204.out 1
     have hfz12_2 := blk_frozen BK204.out 2
     have hfz12_3 := blk_frozen BK204.out 3
     have hfz12_4 := blk_frozen BK204.out 4
     go_wp2_with (first | (go_at_call 52; (with_reducible refine (spec_l5Texts.calls k _ _ l0_0 true _ ?side1 ?side2 A4.out).mono ?_); (case side1 => repeat (first | exact (Kd.C_below HR0_0.out HB.out) | (with_reducible refine Kd.C_alloc ?_ _) | (with_reducible refine Kd.C_drewN ?_ _) | (with_reducible refine Kd.C_drew ?_))); (case side2 => exact HC0_0.out); rintro e w' ⟨rfl, ⟨nd, rfl⟩⟩; (try first | exact ⟨rfl, _, World.drewN_drewN _ _ _⟩ | exact ⟨rfl, _, Eq.trans (World.drewN_drewN _ _ _) (congrArg (World.drewN _) (Nat.add_assoc _ _ _))⟩)) | (go_at_call 52; (with_reducible refine (spec_l5Texts.calls k _ _ l0_1 true _ ?side1 ?side2 A6.out).mono ?_); (case side1 => repeat (first | exact (Kd.C_below HR0_1.out (by repeat (first | (with_reducible first | exact HB.out | apply below_alloc | apply pw_below_drewN | apply below_drew1 | refine below_set ?_ GE204.out) | exact HB.out))) | (with_reducible refine Kd.C_alloc ?_ _) | (with_reducible refine Kd.C_drewN ?_ _) | (with_reducible refine Kd.C_drew ?_))); (case side2 => exact HC0_1.out); rintro e w' ⟨rfl, ⟨nd, rfl⟩⟩; (try first | exact ⟨rfl, _, World.drewN_drewN _ _ _⟩ | exact ⟨rfl, _, Eq.trans (World.drewN_drewN _ _ _) (congrArg (World.drewN _) (Nat.add_assoc _ _ _))⟩)))
     repeat (go_quiet (first | (go_at_call 52; (with_reducible refine (spec_l5Texts.calls k _ _ l0_0 true _ ?side1 ?side2 A4.out).mono ?_); (case side1 => repeat (first | exact (Kd.C_below HR0_0.out HB.out) | (with_reducible refine Kd.C_alloc ?_ _) | (with_reducible refine Kd.C_drewN ?_ _) | (with_reducible refine Kd.C_drew ?_))); (case side2 => exact HC0_0.out); rintro e w' ⟨rfl, ⟨nd, rfl⟩⟩; (try first | exact ⟨rfl, _, World.drewN_drewN _ _ _⟩ | exact ⟨rfl, _, Eq.trans (World.drewN_drewN _ _ _) (congrArg (World.drewN _) (Nat.add_assoc _ _ _))⟩)) | (go_at_call 52; (with_reducible refine (spec_l5Texts.calls k _ _ l0_1 true _ ?side1 ?side2 A6.out).mono ?_); (case side1 => repeat (first | exact (Kd.C_below HR0_1.out (by repeat (first | (with_reducible first | exact HB.out | apply below_alloc | apply pw_below_drewN | apply below_drew1 | refine below_set ?_ GE204.out) | exact HB.out))) | (with_reducible refine Kd.C_alloc ?_ _) | (with_reducible refine Kd.C_drewN ?_ _) | (with_reducible refine Kd.C_drew ?_))); (case side2 => exact HC0_1.out); rintro e w' ⟨rfl, ⟨nd, rfl⟩⟩; (try first | exact ⟨rfl, _, World.drewN_drewN _ _ _⟩ | exact ⟨rfl, _, Eq.trans (World.drewN_drewN _ _ _) (congrArg (World.drewN _) (Nat.add_assoc _ _ _))⟩))); try go_wp2_with (first | (go_at_call 52; (with_reducible refine (spec_l5Texts.calls k _ _ l0_0 true _ ?side1 ?side2 A4.out).mono ?_); (case side1 => repeat (first | exact (Kd.C_below HR0_0.out HB.out) | (with_reducible refine Kd.C_alloc ?_ _) | (with_reducible refine Kd.C_drewN ?_ _) | (with_reducible refine Kd.C_drew ?_))); (case side2 => exact HC0_0.out); rintro e w' ⟨rfl, ⟨nd, rfl⟩⟩; (try first | exact ⟨rfl, _, World.drewN_drewN _ _ _⟩ | exact ⟨rfl, _, Eq.trans (World.drewN_drewN _ _ _) (congrArg (World.drewN _) (Nat.add_assoc _ _ _))⟩)) | (go_at_call 52; (with_reducible refine (spec_l5Texts.calls k _ _ l0_1 true _ ?side1 ?side2 A6.out).mono ?_); (case side1 => repeat (first | exact (Kd.C_below HR0_1.out (by repeat (first | (with_reducible first | exact HB.out | apply below_alloc | apply pw_below_drewN | apply below_drew1 | refine below_set ?_ GE204.out) | exact HB.out))) | (with_reducible refine Kd.C_alloc ?_ _) | (with_reducible refine Kd.C_drewN ?_ _) | (with_reducible refine Kd.C_drew ?_))); (case side2 => exact HC0_1.out); rintro e w' ⟨rfl, ⟨nd, rfl⟩⟩; (try first | exact ⟨rfl, _, World.drewN_drewN _ _ _⟩ | exact ⟨rfl, _, Eq.trans (World.drewN_drewN _ _ _) (congrArg (World.drewN _) (Nat.add_assoc _ _ _))⟩))))
     go_meet
     case rel => exact ⟨_, (true), (by first | rfl | (simp; done) | (simp [*]; done)), H', ⟨by first | omega | exact Nat.le_refl _⟩, ⟨by (with_reducible repeat (first | refine blk_drewN ?_ _ | refine blk_drew ?_ | refine blk_alloc ?_ _)); exact BK204.out⟩, ⟨by repeat (first | (with_reducible first | exact HB.out | apply below_alloc | apply pw_below_drewN | apply below_drew1 | refine below_set ?_ GE204.out) | exact HB.out)⟩⟩
   ·replace c7 := Bool.eq_false_iff.mpr c7
    subst c7
    have H1 : (spec_StoreOk.j0 k true l0_0 l0_1 l0_2 l0_3 l0_4) = some r := by rw [if_neg (show ¬ (false = true) by decide)] at H; exact H
    clear H
    have H := H1
    clear H1
    have H' := Ak H
    clear H
    have hcz13_0 : w3.cell? ⟨gb204, 0, none⟩ = some (.slice A0_0 l0_0.length c0_0) := (blk_cell BK204.out 0).trans rfl
    have hcz13_1 : w3.cell? ⟨gb204, 1, none⟩ = some (.slice A0_1 l0_1.length c0_1) := (blk_cell BK204.out 1).trans rfl
    have hcz13_2 : w3.cell? ⟨gb204, 2, none⟩ = some (.slice A0_2 l0_2.length c0_2) := (blk_cell BK204.out 2).trans rfl
    have hcz13_3 : w3.cell? ⟨gb204, 3, none⟩ = some (.slice A0_3 l0_3.length c0_3) := (blk_cell BK204.out 3).trans rfl
    have hcz13_4 : w3.cell? ⟨gb204, 4, none⟩ = some (.slice A0_4 l0_4.length c0_4) := (blk_cell BK204.out 4).trans rfl
    have hfz13_0 := blk_frozen BK204.out 0
    have hfz13_1 := blk_frozen BK204.out 1
    have hfz13_2 := blk_frozen BK204.out 2
    have hfz13_3 := blk_frozen BK204.out 3
    have hfz13_4 := blk_frozen BK204.out 4
    go_wp2_with (first | (go_at_call 52; (with_reducible refine (spec_l5Texts.calls k _ _ l0_0 true _ ?side1 ?side2 A4.out).mono ?_); (case side1 => repeat (first | exact (Kd.C_below HR0_0.out HB.out) | (with_reducible refine Kd.C_alloc ?_ _) | (with_reducible refine Kd.C_drewN ?_ _) | (with_reducible refine Kd.C_drew ?_))); (case side2 => exact HC0_0.out); rintro e w' ⟨rfl, ⟨nd, rfl⟩⟩; (try first | exact ⟨rfl, _, World.drewN_drewN _ _ _⟩ | exact ⟨rfl, _, Eq.trans (World.drewN_drewN _ _ _) (congrArg (World.drewN _) (Nat.add_assoc _ _ _))⟩)) | (go_at_call 52; (with_reducible refine (spec_l5Texts.calls k _ _ l0_1 false _ ?side1 ?side2 A6.out).mono ?_); (case side1 => repeat (first | exact (Kd.C_below HR0_1.out (by repeat (first | (with_reducible first | exact HB.out | apply below_alloc | apply pw_below_drewN | apply below_drew1 | refine below_set ?_ GE204.out) | exact HB.out))) | (with_reducible refine Kd.C_alloc ?_ _) | (with_reducible refine Kd.C_drewN ?_ _) | (with_reducible refine Kd.C_drew ?_))); (case side2 => exact HC0_1.out); rintro e w' ⟨rfl, ⟨nd, rfl⟩⟩; (try first | exact ⟨rfl, _, World.drewN_drewN _ _ _⟩ | exact ⟨rfl, _, Eq.trans (World.drewN_drewN _ _ _) (congrArg (World.drewN _) (Nat.add_assoc _ _ _))⟩)))
    repeat (go_quiet (first | (go_at_call 52; (with_reducible refine (spec_l5Texts.calls k _ _ l0_0 true _ ?side1 ?side2 A4.out).mono ?_); (case side1 => repeat (first | exact (Kd.C_below HR0_0.out HB.out) | (with_reducible refine Kd.C_alloc ?_ _) | (with_reducible refine Kd.C_drewN ?_ _) | (with_reducible refine Kd.C_drew ?_))); (case side2 => exact HC0_0.out); rintro e w' ⟨rfl, ⟨nd, rfl⟩⟩; (try first | exact ⟨rfl, _, World.drewN_drewN _ _ _⟩ | exact ⟨rfl, _, Eq.trans (World.drewN_drewN _ _ _) (congrArg (World.drewN _) (Nat.add_assoc _ _ _))⟩)) | (go_at_call 52; (with_reducible refine (spec_l5Texts.calls k _ _ l0_1 false _ ?side1 ?side2 A6.out).mono ?_); (case side1 => repeat (first | exact (Kd.C_below HR0_1.out (by repeat (first | (with_reducible first | exact HB.out | apply below_alloc | apply pw_below_drewN | apply below_drew1 | refine below_set ?_ GE204.out) | exact HB.out))) | (with_reducible refine Kd.C_alloc ?_ _) | (with_reducible refine Kd.C_drewN ?_ _) | (with_reducible refine Kd.C_drew ?_))); (case side2 => exact HC0_1.out); rintro e w' ⟨rfl, ⟨nd, rfl⟩⟩; (try first | exact ⟨rfl, _, World.drewN_drewN _ _ _⟩ | exact ⟨rfl, _, Eq.trans (World.drewN_drewN _ _ _) (congrArg (World.drewN _) (Nat.add_assoc _ _ _))⟩))); try go_wp2_with (first | (go_at_call 52; (with_reducible refine (spec_l5Texts.calls k _ _ l0_0 true _ ?side1 ?side2 A4.out).mono ?_); (case side1 => repeat (first | exact (Kd.C_below HR0_0.out HB.out) | (with_reducible refine Kd.C_alloc ?_ _) | (with_reducible refine Kd.C_drewN ?_ _) | (with_reducible refine Kd.C_drew ?_))); (case side2 => exact HC0_0.out); rintro e w' ⟨rfl, ⟨nd, rfl⟩⟩; (try first | exact ⟨rfl, _, World.drewN_drewN _ _ _⟩ | exact ⟨rfl, _, Eq.trans (World.drewN_drewN _ _ _) (congrArg (World.drewN _) (Nat.add_assoc _ _ _))⟩)) | (go_at_call 52; (with_reducible refine (spec_l5Texts.calls k _ _ l0_1 false _ ?side1 ?side2 A6.out).mono ?_); (case side1 => repeat (first | exact (Kd.C_below HR0_1.out (by repeat (first | (with_reducible first | exact HB.out | apply below_alloc | apply pw_below_drewN | apply below_drew1 | refine below_set ?_ GE204.out) | exact HB.out))) | (with_reducible refine Kd.C_alloc ?_ _) | (with_reducible refine Kd.C_drewN ?_ _) | (with_reducible refine Kd.C_drew ?_))); (case side2 => exact HC0_1.out); rintro e w' ⟨rfl, ⟨nd, rfl⟩⟩; (try first | exact ⟨rfl, _, World.drewN_drewN _ _ _⟩ | exact ⟨rfl, _, Eq.trans (World.drewN_drewN _ _ _) (congrArg (World.drewN _) (Nat.add_assoc _ _ _))⟩))))
    go_meet
    case rel => exact ⟨_, (true), (by first | rfl | (simp; done) | (simp [*]; done)), H', ⟨by first | omega | exact Nat.le_refl _⟩, ⟨by (with_reducible repeat (first | refine blk_drewN ?_ _ | refine blk_drew ?_ | refine blk_alloc ?_ _)); exact BK204.out⟩, ⟨by repeat (first | (with_reducible first | exact HB.out | apply below_alloc | apply pw_below_drewN | apply below_drew1 | refine below_set ?_ GE204.out) | exact HB.out)⟩⟩
  ·replace c5 := Bool.eq_false_iff.mpr c5
   subst c5
   have H1 : (spec_StoreOk.j0 k true l0_0 l0_1 l0_2 l0_3 l0_4) = some r := by rw [if_neg (show ¬ (false = true) by decide)] at H; exact H
   clear H
   have H := H1
   clear H1
   have H' := Ak H
   clear H
   have hcz14_0 : w3.cell? ⟨gb204, 0, none⟩ = some (.slice A0_0 l0_0.length c0_0) := (blk_cell BK204.out 0).trans rfl
   have hcz14_1 : w3.cell? ⟨gb204, 1, none⟩ = some (.slice A0_1 l0_1.length c0_1) := (blk_cell BK204.out 1).trans rfl
   have hcz14_2 : w3.cell? ⟨gb204, 2, none⟩ = some (.slice A0_2 l0_2.length c0_2) := (blk_cell BK204.out 2).trans rfl
   have hcz14_3 : w3.cell? ⟨gb204, 3, none⟩ = some (.slice A0_3 l0_3.length c0_3) := (blk_cell BK204.out 3).trans rfl
   have hcz14_4 : w3.cell? ⟨gb204, 4, none⟩ = some (.slice A0_4 l0_4.length c0_4) := (blk_cell BK204.out 4).trans rfl
   have hfz14_0 := blk_frozen BK204.out 0
   have hfz14_1 := blk_frozen BK204.out 1
   have hfz14_2 := blk_frozen BK204.out 2
   have hfz14_3 := blk_frozen BK204.out 3
   have hfz14_4 := blk_frozen BK204.out 4
   go_wp2_with (first | (go_at_call 52; (with_reducible refine (spec_l5Texts.calls k _ _ l0_0 false _ ?side1 ?side2 A4.out).mono ?_); (case side1 => repeat (first | exact (Kd.C_below HR0_0.out HB.out) | (with_reducible refine Kd.C_alloc ?_ _) | (with_reducible refine Kd.C_drewN ?_ _) | (with_reducible refine Kd.C_drew ?_))); (case side2 => exact HC0_0.out); rintro e w' ⟨rfl, ⟨nd, rfl⟩⟩; (try first | exact ⟨rfl, _, World.drewN_drewN _ _ _⟩ | exact ⟨rfl, _, Eq.trans (World.drewN_drewN _ _ _) (congrArg (World.drewN _) (Nat.add_assoc _ _ _))⟩)))
   repeat (go_quiet (first | (go_at_call 52; (with_reducible refine (spec_l5Texts.calls k _ _ l0_0 false _ ?side1 ?side2 A4.out).mono ?_); (case side1 => repeat (first | exact (Kd.C_below HR0_0.out HB.out) | (with_reducible refine Kd.C_alloc ?_ _) | (with_reducible refine Kd.C_drewN ?_ _) | (with_reducible refine Kd.C_drew ?_))); (case side2 => exact HC0_0.out); rintro e w' ⟨rfl, ⟨nd, rfl⟩⟩; (try first | exact ⟨rfl, _, World.drewN_drewN _ _ _⟩ | exact ⟨rfl, _, Eq.trans (World.drewN_drewN _ _ _) (congrArg (World.drewN _) (Nat.add_assoc _ _ _))⟩))); try go_wp2_with (first | (go_at_call 52; (with_reducible refine (spec_l5Texts.calls k _ _ l0_0 false _ ?side1 ?side2 A4.out).mono ?_); (case side1 => repeat (first | exact (Kd.C_below HR0_0.out HB.out) | (with_reducible refine Kd.C_alloc ?_ _) | (with_reducible refine Kd.C_drewN ?_ _) | (with_reducible refine Kd.C_drew ?_))); (case side2 => exact HC0_0.out); rintro e w' ⟨rfl, ⟨nd, rfl⟩⟩; (try first | exact ⟨rfl, _, World.drewN_drewN _ _ _⟩ | exact ⟨rfl, _, Eq.trans (World.drewN_drewN _ _ _) (congrArg (World.drewN _) (Nat.add_assoc _ _ _))⟩))))
   go_meet
   case rel => exact ⟨_, (true), (by first | rfl | (simp; done) | (simp [*]; done)), H', ⟨by first | omega | exact Nat.le_refl _⟩, ⟨by (with_reducible repeat (first | refine blk_drewN ?_ _ | refine blk_drew ?_ | refine blk_alloc ?_ _)); exact BK204.out⟩, ⟨by repeat (first | (with_reducible first | exact HB.out | apply below_alloc | apply pw_below_drewN | apply below_drew1 | refine below_set ?_ GE204.out) | exact HB.out)⟩⟩
 case rest =>
  clear HC2
  try clear c1
  try clear p2
  try clear c5
  try clear c7
  try clear c8
  try clear c8b0
  try clear c8b1
  try clear c9
  try clear c9b0
  try clear c9b1
  try clear hcz10_0
  try clear hcz10_1
  try clear hcz10_2
  try clear hcz10_3
  try clear hcz10_4
  try clear hcz11_0
  try clear hcz11_1
  try clear hcz11_2
  try clear hcz11_3
  try clear hcz11_4
  try clear hcz12_0
  try clear hcz12_1
  try clear hcz12_2
  try clear hcz12_3
  try clear hcz12_4
  try clear hcz13_0
  try clear hcz13_1
  try clear hcz13_2
  try clear hcz13_3
  try clear hcz13_4
  try clear hcz14_0
  try clear hcz14_1
  try clear hcz14_2
  try clear hcz14_3
  try clear hcz14_4
  try clear hfz10_0
  try clear hfz10_1
  try clear hfz10_2
  try clear hfz10_3
  try clear hfz10_4
  try clear hfz11_0
  try clear hfz11_1
  try clear hfz11_2
  try clear hfz11_3
  try clear hfz11_4
  try clear hfz12_0
  try clear hfz12_1
  try clear hfz12_2
  try clear hfz12_3
  try clear hfz12_4
  try clear hfz13_0
  try clear hfz13_1
  try clear hfz13_2
  try clear hfz13_3
  try clear hfz13_4
  try clear hfz14_0
  try clear hfz14_1
  try clear hfz14_2
  try clear hfz14_3
  try clear hfz14_4
  obtain ⟨kq, x31_1, rfl, HA, HJ1, BK204, HB⟩ := hcut
  cases kq with
  | zero => exact absurd HA.out (by simp [spec_StoreOk.j0])
  | succ kj1 =>
   have H := HA.out
   clear HA
   simp only [spec_StoreOk.j0] at H
   by_cases c15 : x31_1 = true
   ·subst c15
    have H1 : (some false) = some r := by rw [if_pos rfl] at H; exact H
    clear H
    have H := H1
    clear H1
    obtain rfl := Option.some.inj H
    go_wp2
    repeat (go_quiet (fail); try go_wp2)
    go_ret
    exact ⟨by first | rfl | (simp [errW_none, errW_some] <;> rfl) | (simp [*, errW_none, errW_some] <;> rfl), by repeat (first | (with_reducible first | exact HB.out | apply below_alloc | apply pw_below_drewN | apply below_drew1 | refine below_set ?_ GE204.out) | exact HB.out)⟩
   ·replace c15 := Bool.eq_false_iff.mpr c15
    subst c15
    have H1 : (spec_StoreOk.l0 kj1 0 l0_0 l0_1 l0_2 l0_3 l0_4) = some r := by rw [if_neg (show ¬ (false = true) by decide)] at H; exact H
    clear H
    have H := H1
    clear H1
    have H' := Ak H
    clear H
    go_wp2
    repeat (go_quiet (fail); try go_wp2)
    go_loopg [3] kj1 (fun kq v3 w' => ∃ (x3_2 : Int), v3 = .int .i64 x3_2 ∧ Aside0 (spec_StoreOk.l0 kq x3_2 l0_0 l0_1 l0_2 l0_3 l0_4 = some r) ∧ Aside0 (kq ≤ kj1) ∧ Aside0 (w'.heap[gb204]? = some (.cells #[(.slice A0_0 l0_0.length c0_0), (.slice A0_1 l0_1.length c0_1), (.slice A0_2 l0_2.length c0_2), (.slice A0_3 l0_3.length c0_3), (.slice A0_4 l0_4.length c0_4)] 26 (0, 0))) ∧ Aside0 (Below w.heap.size w w'))
    case atStart => exact ⟨(0), (by first | rfl | (simp; done) | (simp [*]; done)), H', ⟨Nat.le_refl _⟩, ⟨by (with_reducible repeat (first | refine blk_drewN ?_ _ | refine blk_drew ?_ | refine blk_alloc ?_ _)); exact BK204.out⟩, ⟨by repeat (first | (with_reducible first | exact HB.out | apply below_alloc | apply pw_below_drewN | apply below_drew1 | refine below_set ?_ GE204.out) | exact HB.out)⟩⟩
    case round =>
     clear H'
     try clear c1
     try clear p2
     try clear c5
     try clear c7
     try clear c8
     try clear c8b0
     try clear c8b1
     try clear c9
     try clear c9b0
     try clear c9b1
     try clear c15
     try clear hcz10_0
     try clear hcz10_1
     try clear hcz10_2
     try clear hcz10_3
     try clear hcz10_4
     try clear hcz11_0
     try clear hcz11_1
     try clear hcz11_2
     try clear hcz11_3
     try clear hcz11_4
     try clear hcz12_0
     try clear hcz12_1
     try clear hcz12_2
     try clear hcz12_3
     try clear hcz12_4
     try clear hcz13_0
     try clear hcz13_1
     try clear hcz13_2
     try clear hcz13_3
     try clear hcz13_4
     try clear hcz14_0
     try clear hcz14_1
     try clear hcz14_2
     try clear hcz14_3
     try clear hcz14_4
     try clear hfz10_0
     try clear hfz10_1
     try clear hfz10_2
     try clear hfz10_3
     try clear hfz10_4
     try clear hfz11_0
     try clear hfz11_1
     try clear hfz11_2
     try clear hfz11_3
     try clear hfz11_4
     try clear hfz12_0
     try clear hfz12_1
     try clear hfz12_2
     try clear hfz12_3
     try clear hfz12_4
     try clear hfz13_0
     try clear hfz13_1
     try clear hfz13_2
     try clear hfz13_3
     try clear hfz13_4
     try clear hfz14_0
     try clear hfz14_1
     try clear hfz14_2
     try clear hfz14_3
     try clear hfz14_4
     try clear p2
     obtain ⟨x3_2, rfl, HA, HK2, BK204, HB⟩ := hrel
     cases gk with
     | zero => exact absurd HA.out (by simp [spec_StoreOk.l0])
     | succ k2 =>
      have H := HA.out
      clear HA
      simp only [spec_StoreOk.l0] at H
      by_cases c16 : x3_2 < 3
      ·rw [if_pos c16] at H
       have c16b0 : decide (x3_2 < 3) = true := decide_eq_true c16
       clear c16
       by_cases c17 : 0 ≤ x3_2
       ·rw [if_pos c17] at H
        have c17b0 : decide (0 ≤ x3_2) = true := decide_eq_true c17
        clear c17
        by_cases c18 : x3_2 < (l0_3.length : Int)
        ·rw [if_pos c18] at H
         have c18b0 : decide (x3_2 < (l0_3.length : Int)) = true := decide_eq_true c18
         clear c18
         by_cases c19 : (rd l0_3 x3_2) < 0
         ·rw [if_pos c19] at H
          have c19b0 : decide ((rd l0_3 x3_2) < 0) = true := decide_eq_true c19
          clear c19
          obtain rfl := Option.some.inj H
          have hcz20_0 : wr.cell? ⟨gb204, 0, none⟩ = some (.slice A0_0 l0_0.length c0_0) := (blk_cell BK204.out 0).trans rfl
          have hcz20_1 : wr.cell? ⟨gb204, 1, none⟩ = some (.slice A0_1 l0_1.length c0_1) := (blk_cell BK204.out 1).trans rfl
          have hcz20_2 : wr.cell? ⟨gb204, 2, none⟩ = some (.slice A0_2 l0_2.length c0_2) := (blk_cell BK204.out 2).trans rfl
          have hcz20_3 : wr.cell? ⟨gb204, 3, none⟩ = some (.slice A0_3 l0_3.length c0_3) := (blk_cell BK204.out 3).trans rfl
          have hcz20_4 : wr.cell? ⟨gb204, 4, none⟩ = some (.slice A0_4 l0_4.length c0_4) := (blk_cell BK204.out 4).trans rfl
          have hfz20_0 := blk_frozen BK204.out 0
          have hfz20_1 := blk_frozen BK204.out 1
          have hfz20_2 := blk_frozen BK204.out 2
          have hfz20_3 := blk_frozen BK204.out 3
          have hfz20_4 := blk_frozen BK204.out 4
          have p207 : 0 ≤ (x3_2 : Int) := of_decide_eq_true (by first | (with_reducible assumption) | assumption)
          have q207 : x3_2 < (l0_3.length : Int) := of_decide_eq_true (by first | (with_reducible assumption) | assumption)
          obtain ⟨ad207, e207, hx207_0⟩ := Kd.at_int HR0_3.out x3_2 p207 q207
          cases e207
          replace hx207_0 := (HB.out.cell (World.block_lt_of_cell? w _ hx207_0)).trans hx207_0
          replace p207 := eq_true p207
          replace q207 := eq_true q207
          go_wp2
          repeat (go_quiet (fail); try go_wp2)
          go_ret
          exact ⟨by first | rfl | (simp [errW_none, errW_some] <;> rfl) | (simp [*, errW_none, errW_some] <;> rfl), by repeat (first | (with_reducible first | exact HB.out | apply below_alloc | apply pw_below_drewN | apply below_drew1 | refine below_set ?_ GE204.out) | exact HB.out)⟩
         ·rw [if_neg c19] at H
          have c19b0 : decide ((rd l0_3 x3_2) < 0) = false := decide_eq_false c19
          clear c19
          by_cases c21 : x3_2 < (l0_2.length : Int)
          ·rw [if_pos c21] at H
           have c21b0 : decide (x3_2 < (l0_2.length : Int)) = true := decide_eq_true c21
           clear c21
           by_cases c22 : (rd l0_3 x3_2) > (rd l0_2 x3_2)
           ·rw [if_pos c22] at H
            have c22b0 : decide ((rd l0_2 x3_2) < (rd l0_3 x3_2)) = true := decide_eq_true c22
            clear c22
            obtain rfl := Option.some.inj H
            have hcz23_0 : wr.cell? ⟨gb204, 0, none⟩ = some (.slice A0_0 l0_0.length c0_0) := (blk_cell BK204.out 0).trans rfl
            have hcz23_1 : wr.cell? ⟨gb204, 1, none⟩ = some (.slice A0_1 l0_1.length c0_1) := (blk_cell BK204.out 1).trans rfl
            have hcz23_2 : wr.cell? ⟨gb204, 2, none⟩ = some (.slice A0_2 l0_2.length c0_2) := (blk_cell BK204.out 2).trans rfl
            have hcz23_3 : wr.cell? ⟨gb204, 3, none⟩ = some (.slice A0_3 l0_3.length c0_3) := (blk_cell BK204.out 3).trans rfl
            have hcz23_4 : wr.cell? ⟨gb204, 4, none⟩ = some (.slice A0_4 l0_4.length c0_4) := (blk_cell BK204.out 4).trans rfl
            have hfz23_0 := blk_frozen BK204.out 0
            have hfz23_1 := blk_frozen BK204.out 1
            have hfz23_2 := blk_frozen BK204.out 2
            have hfz23_3 := blk_frozen BK204.out 3
            have hfz23_4 := blk_frozen BK204.out 4
            have p207 : 0 ≤ (x3_2 : Int) := of_decide_eq_true (by first | (with_reducible assumption) | assumption)
            have q207 : x3_2 < (l0_3.length : Int) := of_decide_eq_true (by first | (with_reducible assumption) | assumption)
            obtain ⟨ad207, e207, hx207_0⟩ := Kd.at_int HR0_3.out x3_2 p207 q207
            cases e207
            replace hx207_0 := (HB.out.cell (World.block_lt_of_cell? w _ hx207_0)).trans hx207_0
            replace p207 := eq_true p207
            replace q207 := eq_true q207
            have p208 : 0 ≤ (x3_2 : Int) := of_decide_eq_true (by first | (with_reducible assumption) | assumption)
            have q208 : x3_2 < (l0_3.length : Int) := of_decide_eq_true (by first | (with_reducible assumption) | assumption)
            obtain ⟨ad208, e208, hx208_0⟩ := Kd.at_int HR0_3.out x3_2 p208 q208
            obtain rfl : ad207 = ad208 := (by injection e208)
            replace hx208_0 := (HB.out.cell (World.block_lt_of_cell? w _ hx208_0)).trans hx208_0
            replace p208 := eq_true p208
            replace q208 := eq_true q208
            have p209 : 0 ≤ (x3_2 : Int) := of_decide_eq_true (by first | (with_reducible assumption) | assumption)
            have q209 : x3_2 < (l0_2.length : Int) := of_decide_eq_true (by first | (with_reducible assumption) | assumption)
            obtain ⟨ad209, e209, hx209_0⟩ := Kd.at_int HR0_2.out x3_2 p209 q209
            cases e209
            replace hx209_0 := (HB.out.cell (World.block_lt_of_cell? w _ hx209_0)).trans hx209_0
            replace p209 := eq_true p209
            replace q209 := eq_true q209
            go_wp2
            repeat (go_quiet (fail); try go_wp2)
            go_ret
            exact ⟨by first | rfl | (simp [errW_none, errW_some] <;> rfl) | (simp [*, errW_none, errW_some] <;> rfl), by repeat (first | (with_reducible first | exact HB.out | apply below_alloc | apply pw_below_drewN | apply below_drew1 | refine below_set ?_ GE204.out) | exact HB.out)⟩
           ·rw [if_neg c22] at H
            have c22b0 : decide ((rd l0_2 x3_2) < (rd l0_3 x3_2)) = false := decide_eq_false c22
            clear c22
            by_cases c24 : (rd l0_2 x3_2) > 1000
            ·rw [if_pos c24] at H
             have c24b0 : decide (1000 < (rd l0_2 x3_2)) = true := decide_eq_true c24
             clear c24
             obtain rfl := Option.some.inj H
             have hcz25_0 : wr.cell? ⟨gb204, 0, none⟩ = some (.slice A0_0 l0_0.length c0_0) := (blk_cell BK204.out 0).trans rfl
             have hcz25_1 : wr.cell? ⟨gb204, 1, none⟩ = some (.slice A0_1 l0_1.length c0_1) := (blk_cell BK204.out 1).trans rfl
             have hcz25_2 : wr.cell? ⟨gb204, 2, none⟩ = some (.slice A0_2 l0_2.length c0_2) := (blk_cell BK204.out 2).trans rfl
             have hcz25_3 : wr.cell? ⟨gb204, 3, none⟩ = some (.slice A0_3 l0_3.length c0_3) := (blk_cell BK204.out 3).trans rfl
             have hcz25_4 : wr.cell? ⟨gb204, 4, none⟩ = some (.slice A0_4 l0_4.length c0_4) := (blk_cell BK204.out 4).trans rfl
             have hfz25_0 := blk_frozen BK204.out 0
             have hfz25_1 := blk_frozen BK204.out 1
             have hfz25_2 := blk_frozen BK204.out 2
             have hfz25_3 := blk_frozen BK204.out 3
             have hfz25_4 := blk_frozen BK204.out 4
             have p207 : 0 ≤ (x3_2 : Int) := of_decide_eq_true (by first | (with_reducible assumption) | assumption)
             have q207 : x3_2 < (l0_3.length : Int) := of_decide_eq_true (by first | (with_reducible assumption) | assumption)
             obtain ⟨ad207, e207, hx207_0⟩ := Kd.at_int HR0_3.out x3_2 p207 q207
             cases e207
             replace hx207_0 := (HB.out.cell (World.block_lt_of_cell? w _ hx207_0)).trans hx207_0
             replace p207 := eq_true p207
             replace q207 := eq_true q207
             have p208 : 0 ≤ (x3_2 : Int) := of_decide_eq_true (by first | (with_reducible assumption) | assumption)
             have q208 : x3_2 < (l0_3.length : Int) := of_decide_eq_true (by first | (with_reducible assumption) | assumption)
             obtain ⟨ad208, e208, hx208_0⟩ := Kd.at_int HR0_3.out x3_2 p208 q208
             obtain rfl : ad207 = ad208 := (by injection e208)
             replace hx208_0 := (HB.out.cell (World.block_lt_of_cell? w _ hx208_0)).trans hx208_0
             replace p208 := eq_true p208
             replace q208 := eq_true q208
             have p209 : 0 ≤ (x3_2 : Int) := of_decide_eq_true (by first | (with_reducible assumption) | assumption)
             have q209 : x3_2 < (l0_2.length : Int) := of_decide_eq_true (by first | (with_reducible assumption) | assumption)
             obtain ⟨ad209, e209, hx209_0⟩ := Kd.at_int HR0_2.out x3_2 p209 q209
             cases e209
             replace hx209_0 := (HB.out.cell (World.block_lt_of_cell? w _ hx209_0)).trans hx209_0
             replace p209 := eq_true p209
             replace q209 := eq_true q209
             have p210 : 0 ≤ (x3_2 : Int) := of_decide_eq_true (by first | (with_reducible assumption) | assumption)
             have q210 : x3_2 < (l0_2.length : Int) := of_decide_eq_true (by first | (with_reducible assumption) | assumption)
             obtain ⟨ad210, e210, hx210_0⟩ := Kd.at_int HR0_2.out x3_2 p210 q210
             obtain rfl : ad209 = ad210 := (by injection e210)
             replace hx210_0 := (HB.out.cell (World.block_lt_of_cell? w _ hx210_0)).trans hx210_0
             replace p210 := eq_true p210
             replace q210 := eq_true q210
             go_wp2
             repeat (go_quiet (fail); try go_wp2)
             go_ret
             exact ⟨by first | rfl | (simp [errW_none, errW_some] <;> rfl) | (simp [*, errW_none, errW_some] <;> rfl), by repeat (first | (with_reducible first | exact HB.out | apply below_alloc | apply pw_below_drewN | apply below_drew1 | refine below_set ?_ GE204.out) | exact HB.out)⟩
            ·rw [if_neg c24] at H
             have c24b0 : decide (1000 < (rd l0_2 x3_2)) = false := decide_eq_false c24
             clear c24
             by_cases c26 : x3_2 < (l0_4.length : Int)
             ·rw [if_pos c26] at H
              have c26b0 : decide (x3_2 < (l0_4.length : Int)) = true := decide_eq_true c26
              clear c26
              by_cases c27 : (rd l0_4 x3_2) < 0
              ·rw [if_pos c27] at H
               have c27b0 : decide ((rd l0_4 x3_2) < 0) = true := decide_eq_true c27
               clear c27
               obtain rfl := Option.some.inj H
               have hcz28_0 : wr.cell? ⟨gb204, 0, none⟩ = some (.slice A0_0 l0_0.length c0_0) := (blk_cell BK204.out 0).trans rfl
               have hcz28_1 : wr.cell? ⟨gb204, 1, none⟩ = some (.slice A0_1 l0_1.length c0_1) := (blk_cell BK204.out 1).trans rfl
               have hcz28_2 : wr.cell? ⟨gb204, 2, none⟩ = some (.slice A0_2 l0_2.length c0_2) := (blk_cell BK204.out 2).trans rfl
               have hcz28_3 : wr.cell? ⟨gb204, 3, none⟩ = some (.slice A0_3 l0_3.length c0_3) := (blk_cell BK204.out 3).trans rfl
               have hcz28_4 : wr.cell? ⟨gb204, 4, none⟩ = some (.slice A0_4 l0_4.length c0_4) := (blk_cell BK204.out 4).trans rfl
               have hfz28_0 := blk_frozen BK204.out 0
               have hfz28_1 := blk_frozen BK204.out 1
               have hfz28_2 := blk_frozen BK204.out 2
               have hfz28_3 := blk_frozen BK204.out 3
               have hfz28_4 := blk_frozen BK204.out 4
               have p207 : 0 ≤ (x3_2 : Int) := of_decide_eq_true (by first | (with_reducible assumption) | assumption)
               have q207 : x3_2 < (l0_3.length : Int) := of_decide_eq_true (by first | (with_reducible assumption) | assumption)
               obtain ⟨ad207, e207, hx207_0⟩ := Kd.at_int HR0_3.out x3_2 p207 q207
               cases e207
               replace hx207_0 := (HB.out.cell (World.block_lt_of_cell? w _ hx207_0)).trans hx207_0
               replace p207 := eq_true p207
               replace q207 := eq_true q207
               have p208 : 0 ≤ (x3_2 : Int) := of_decide_eq_true (by first | (with_reducible assumption) | assumption)
               have q208 : x3_2 < (l0_3.length : Int) := of_decide_eq_true (by first | (with_reducible assumption) | assumption)
               obtain ⟨ad208, e208, hx208_0⟩ := Kd.at_int HR0_3.out x3_2 p208 q208
               obtain rfl : ad207 = ad208 := (by injection e208)
               replace hx208_0 := (HB.out.cell (World.block_lt_of_cell? w _ hx208_0)).trans hx208_0
               replace p208 := eq_true p208
               replace q208 := eq_true q208
               have p209 : 0 ≤ (x3_2 : Int) := of_decide_eq_true (by first | (with_reducible assumption) | assumption)
               have q209 : x3_2 < (l0_2.length : Int) := of_decide_eq_true (by first | (with_reducible assumption) | assumption)
               obtain ⟨ad209, e209, hx209_0⟩ := Kd.at_int HR0_2.out x3_2 p209 q209
               cases e209
               replace hx209_0 := (HB.out.cell (World.block_lt_of_cell? w _ hx209_0)).trans hx209_0
               replace p209 := eq_true p209
               replace q209 := eq_true q209
               have p210 : 0 ≤ (x3_2 : Int) := of_decide_eq_true (by first | (with_reducible assumption) | assumption)
               have q210 : x3_2 < (l0_2.length : Int) := of_decide_eq_true (by first | (with_reducible assumption) | assumption)
               obtain ⟨ad210, e210, hx210_0⟩ := Kd.at_int HR0_2.out x3_2 p210 q210
               obtain rfl : ad209 = ad210 := (by injection e210)
               replace hx210_0 := (HB.out.cell (World.block_lt_of_cell? w _ hx210_0)).trans hx210_0
               replace p210 := eq_true p210
               replace q210 := eq_true q210
               have p211 : 0 ≤ (x3_2 : Int) := of_decide_eq_true (by first | (with_reducible assumption) | assumption)
               have q211 : x3_2 < (l0_4.length : Int) := of_decide_eq_true (by first | (with_reducible assumption) | assumption)
               obtain ⟨ad211, e211, hx211_0⟩ := Kd.at_int HR0_4.out x3_2 p211 q211
               cases e211
               replace hx211_0 := (HB.out.cell (World.block_lt_of_cell? w _ hx211_0)).trans hx211_0
               replace p211 := eq_true p211
               replace q211 := eq_true q211
               go_wp2
               repeat (go_quiet (fail); try go_wp2)
               go_ret
               exact ⟨by first | rfl | (simp [errW_none, errW_some] <;> rfl) | (simp [*, errW_none, errW_some] <;> rfl), by repeat (first | (with_reducible first | exact HB.out | apply below_alloc | apply pw_below_drewN | apply below_drew1 | refine below_set ?_ GE204.out) | exact HB.out)⟩
              ·rw [if_neg c27] at H
               have c27b0 : decide ((rd l0_4 x3_2) < 0) = false := decide_eq_false c27
               clear c27
               by_cases c29 : (rd l0_4 x3_2) > 100
               ·rw [if_pos c29] at H
                have c29b0 : decide (100 < (rd l0_4 x3_2)) = true := decide_eq_true c29
                clear c29
                obtain rfl := Option.some.inj H
                have hcz30_0 : wr.cell? ⟨gb204, 0, none⟩ = some (.slice A0_0 l0_0.length c0_0) := (blk_cell BK204.out 0).trans rfl
                have hcz30_1 : wr.cell? ⟨gb204, 1, none⟩ = some (.slice A0_1 l0_1.length c0_1) := (blk_cell BK204.out 1).trans rfl
                have hcz30_2 : wr.cell? ⟨gb204, 2, none⟩ = some (.slice A0_2 l0_2.length c0_2) := (blk_cell BK204.out 2).trans rfl
                have hcz30_3 : wr.cell? ⟨gb204, 3, none⟩ = some (.slice A0_3 l0_3.length c0_3) := (blk_cell BK204.out 3).trans rfl
                have hcz30_4 : wr.cell? ⟨gb204, 4, none⟩ = some (.slice A0_4 l0_4.length c0_4) := (blk_cell BK204.out 4).trans rfl
                have hfz30_0 := blk_frozen BK204.out 0
                have hfz30_1 := blk_frozen BK204.out 1
                have hfz30_2 := blk_frozen BK204.out 2
                have hfz30_3 := blk_frozen BK204.out 3
                have hfz30_4 := blk_frozen BK204.out 4
                have p207 : 0 ≤ (x3_2 : Int) := of_decide_eq_true (by first | (with_reducible assumption) | assumption)
                have q207 : x3_2 < (l0_3.length : Int) := of_decide_eq_true (by first | (with_reducible assumption) | assumption)
                obtain ⟨ad207, e207, hx207_0⟩ := Kd.at_int HR0_3.out x3_2 p207 q207
                cases e207
                replace hx207_0 := (HB.out.cell (World.block_lt_of_cell? w _ hx207_0)).trans hx207_0
                replace p207 := eq_true p207
                replace q207 := eq_true q207
                have p208 : 0 ≤ (x3_2 : Int) := of_decide_eq_true (by first | (with_reducible assumption) | assumption)
                have q208 : x3_2 < (l0_3.length : Int) := of_decide_eq_true (by first | (with_reducible assumption) | assumption)
                obtain ⟨ad208, e208, hx208_0⟩ := Kd.at_int HR0_3.out x3_2 p208 q208
                obtain rfl : ad207 = ad208 := (by injection e208)
                replace hx208_0 := (HB.out.cell (World.block_lt_of_cell? w _ hx208_0)).trans hx208_0
                replace p208 := eq_true p208
                replace q208 := eq_true q208
                have p209 : 0 ≤ (x3_2 : Int) := of_decide_eq_true (by first | (with_reducible assumption) | assumption)
                have q209 : x3_2 < (l0_2.length : Int) := of_decide_eq_true (by first | (with_reducible assumption) | assumption)
                obtain ⟨ad209, e209, hx209_0⟩ := Kd.at_int HR0_2.out x3_2 p209 q209
                cases e209
                replace hx209_0 := (HB.out.cell (World.block_lt_of_cell? w _ hx209_0)).trans hx209_0
                replace p209 := eq_true p209
                replace q209 := eq_true q209
                have p210 : 0 ≤ (x3_2 : Int) := of_decide_eq_true (by first | (with_reducible assumption) | assumption)
                have q210 : x3_2 < (l0_2.length : Int) := of_decide_eq_true (by first | (with_reducible assumption) | assumption)
                obtain ⟨ad210, e210, hx210_0⟩ := Kd.at_int HR0_2.out x3_2 p210 q210
                obtain rfl : ad209 = ad210 := (by injection e210)
                replace hx210_0 := (HB.out.cell (World.block_lt_of_cell? w _ hx210_0)).trans hx210_0
                replace p210 := eq_true p210
                replace q210 := eq_true q210
                have p211 : 0 ≤ (x3_2 : Int) := of_decide_eq_true (by first | (with_reducible assumption) | assumption)
                have q211 : x3_2 < (l0_4.length : Int) := of_decide_eq_true (by first | (with_reducible assumption) | assumption)
                obtain ⟨ad211, e211, hx211_0⟩ := Kd.at_int HR0_4.out x3_2 p211 q211
                cases e211
                replace hx211_0 := (HB.out.cell (World.block_lt_of_cell? w _ hx211_0)).trans hx211_0
                replace p211 := eq_true p211
                replace q211 := eq_true q211
                have p212 : 0 ≤ (x3_2 : Int) := of_decide_eq_true (by first | (with_reducible assumption) | assumption)
                have q212 : x3_2 < (l0_4.length : Int) := of_decide_eq_true (by first | (with_reducible assumption) | assumption)
                obtain ⟨ad212, e212, hx212_0⟩ := Kd.at_int HR0_4.out x3_2 p212 q212
                obtain rfl : ad211 = ad212 := (by injection e212)
                replace hx212_0 := (HB.out.cell (World.block_lt_of_cell? w _ hx212_0)).trans hx212_0
                replace p212 := eq_true p212
                replace q212 := eq_true q212
                go_wp2
                repeat (go_quiet (fail); try go_wp2)
                go_ret
                exact ⟨by first | rfl | (simp [errW_none, errW_some] <;> rfl) | (simp [*, errW_none, errW_some] <;> rfl), by repeat (first | (with_reducible first | exact HB.out | apply below_alloc | apply pw_below_drewN | apply below_drew1 | refine below_set ?_ GE204.out) | exact HB.out)⟩
               ·rw [if_neg c29] at H
                have c29b0 : decide (100 < (rd l0_4 x3_2)) = false := decide_eq_false c29
                clear c29
                have H' := Ak H
                clear H
                have hcz31_0 : wr.cell? ⟨gb204, 0, none⟩ = some (.slice A0_0 l0_0.length c0_0) := (blk_cell BK204.out 0).trans rfl
                have hcz31_1 : wr.cell? ⟨gb204, 1, none⟩ = some (.slice A0_1 l0_1.length c0_1) := (blk_cell BK204.out 1).trans rfl
                have hcz31_2 : wr.cell? ⟨gb204, 2, none⟩ = some (.slice A0_2 l0_2.length c0_2) := (blk_cell BK204.out 2).trans rfl
                have hcz31_3 : wr.cell? ⟨gb204, 3, none⟩ = some (.slice A0_3 l0_3.length c0_3) := (blk_cell BK204.out 3).trans rfl
                have hcz31_4 : wr.cell? ⟨gb204, 4, none⟩ = some (.slice A0_4 l0_4.length c0_4) := (blk_cell BK204.out 4).trans rfl
                have hfz31_0 := blk_frozen BK204.out 0
                have hfz31_1 := blk_frozen BK204.out 1
                have hfz31_2 := blk_frozen BK204.out 2
                have hfz31_3 := blk_frozen BK204.out 3
                have hfz31_4 := blk_frozen BK204.out 4
                have p207 : 0 ≤ (x3_2 : Int) := of_decide_eq_true (by first | (with_reducible assumption) | assumption)
                have q207 : x3_2 < (l0_3.length : Int) := of_decide_eq_true (by first | (with_reducible assumption) | assumption)
                obtain ⟨ad207, e207, hx207_0⟩ := Kd.at_int HR0_3.out x3_2 p207 q207
                cases e207
                replace hx207_0 := (HB.out.cell (World.block_lt_of_cell? w _ hx207_0)).trans hx207_0
                replace p207 := eq_true p207
                replace q207 := eq_true q207
                have p208 : 0 ≤ (x3_2 : Int) := of_decide_eq_true (by first | (with_reducible assumption) | assumption)
                have q208 : x3_2 < (l0_3.length : Int) := of_decide_eq_true (by first | (with_reducible assumption) | assumption)
                obtain ⟨ad208, e208, hx208_0⟩ := Kd.at_int HR0_3.out x3_2 p208 q208
                obtain rfl : ad207 = ad208 := (by injection e208)
                replace hx208_0 := (HB.out.cell (World.block_lt_of_cell? w _ hx208_0)).trans hx208_0
                replace p208 := eq_true p208
                replace q208 := eq_true q208
                have p209 : 0 ≤ (x3_2 : Int) := of_decide_eq_true (by first | (with_reducible assumption) | assumption)
                have q209 : x3_2 < (l0_2.length : Int) := of_decide_eq_true (by first | (with_reducible assumption) | assumption)
                obtain ⟨ad209, e209, hx209_0⟩ := Kd.at_int HR0_2.out x3_2 p209 q209
                cases e209
                replace hx209_0 := (HB.out.cell (World.block_lt_of_cell? w _ hx209_0)).trans hx209_0
                replace p209 := eq_true p209
                replace q209 := eq_true q209
                have p210 : 0 ≤ (x3_2 : Int) := of_decide_eq_true (by first | (with_reducible assumption) | assumption)
                have q210 : x3_2 < (l0_2.length : Int) := of_decide_eq_true (by first | (with_reducible assumption) | assumption)
                obtain ⟨ad210, e210, hx210_0⟩ := Kd.at_int HR0_2.out x3_2 p210 q210
                obtain rfl : ad209 = ad210 := (by injection e210)
                replace hx210_0 := (HB.out.cell (World.block_lt_of_cell? w _ hx210_0)).trans hx210_0
                replace p210 := eq_true p210
                replace q210 := eq_true q210
                have p211 : 0 ≤ (x3_2 : Int) := of_decide_eq_true (by first | (with_reducible assumption) | assumption)
                have q211 : x3_2 < (l0_4.length : Int) := of_decide_eq_true (by first | (with_reducible assumption) | assumption)
                obtain ⟨ad211, e211, hx211_0⟩ := Kd.at_int HR0_4.out x3_2 p211 q211
                cases e211
                replace hx211_0 := (HB.out.cell (World.block_lt_of_cell? w _ hx211_0)).trans hx211_0
                replace p211 := eq_true p211
                replace q211 := eq_true q211
                have p212 : 0 ≤ (x3_2 : Int) := of_decide_eq_true (by first | (with_reducible assumption) | assumption)
                have q212 : x3_2 < (l0_4.length : Int) := of_decide_eq_true (by first | (with_reducible assumption) | assumption)
                obtain ⟨ad212, e212, hx212_0⟩ := Kd.at_int HR0_4.out x3_2 p212 q212
                obtain rfl : ad211 = ad212 := (by injection e212)
                replace hx212_0 := (HB.out.cell (World.block_lt_of_cell? w _ hx212_0)).trans hx212_0
                replace p212 := eq_true p212
                replace q212 := eq_true q212
                go_wp2
                repeat (go_quiet (fail); try go_wp2)
                go_roundg k2
                case measure => have := HJ1.out; have := HK2.out; omega
                case rel => exact ⟨(wrap64 (x3_2 + 1)), (by first | rfl | (simp; done) | (simp [*]; done)), H', ⟨by have := HJ1.out; have := HK2.out; omega⟩, ⟨by (with_reducible repeat (first | refine blk_drewN ?_ _ | refine blk_drew ?_ | refine blk_alloc ?_ _)); exact BK204.out⟩, ⟨by repeat (first | (with_reducible first | exact HB.out | apply below_alloc | apply pw_below_drewN | apply below_drew1 | refine below_set ?_ GE204.out) | exact HB.out)⟩⟩
             ·rw [if_neg c26] at H
              exact absurd H (by simp)
          ·rw [if_neg c21] at H
           exact absurd H (by simp)
        ·rw [if_neg c18] at H
         exact absurd H (by simp)
       ·rw [if_neg c17] at H
        exact absurd H (by simp)
      ·rw [if_neg c16] at H
       have c16b0 : decide (x3_2 < 3) = false := decide_eq_false c16
       clear c16
       obtain rfl := Option.some.inj H
       go_wp2
       repeat (go_quiet (fail); try go_wp2)
       go_ret
       exact ⟨by first | rfl | (simp [errW_none, errW_some] <;> rfl) | (simp [*, errW_none, errW_some] <;> rfl), by repeat (first | (with_reducible first | exact HB.out | apply below_alloc | apply pw_below_drewN | apply below_drew1 | refine below_set ?_ GE204.out) | exact HB.out)⟩
end Go.Proofs.Ytmekkapacbdbeaa.P
namespace Go.Proofs.Ytmekkapacbdbeaa.P
open Go.RowKit Go.Proofs.YtmekkapacbdbeaaW.PrintWords Go.Proofs.YtmekkapacbdbeaaW.PrintLast Go.Proofs.YtmekkapacbdbeaaW.PrintMore
attribute [local go_sem] max2_int min2_int max_two min_two max_three min_three max_four min_four   
set_option linter.unusedVariables false
set_option linter.unusedSimpArgs false
def impl_TextOk.l0 : Nat → ByteArray → Int → Int → Option (Bool)
 | 0, _, _, _ => none
 | k + 1, x0, x6, x7 => if x7 < x6 then (if 0 ≤ x7 then (if x7 < (x0.size : Int) then (if (bt x0 x7) < 97 then (if (bt x0 x7) < 48 then (if (bt x0 x7) = 46 then (impl_TextOk.l0 k x0 x6 (wrap64 (x7 + 1))) else (some false)) else (if (bt x0 x7) > 57 then (if (bt x0 x7) = 46 then (impl_TextOk.l0 k x0 x6 (wrap64 (x7 + 1))) else (some false)) else (impl_TextOk.l0 k x0 x6 (wrap64 (x7 + 1))))) else (if (bt x0 x7) > 122 then (if (bt x0 x7) < 48 then (if (bt x0 x7) = 46 then (impl_TextOk.l0 k x0 x6 (wrap64 (x7 + 1))) else (some false)) else (if (bt x0 x7) > 57 then (if (bt x0 x7) = 46 then (impl_TextOk.l0 k x0 x6 (wrap64 (x7 + 1))) else (some false)) else (impl_TextOk.l0 k x0 x6 (wrap64 (x7 + 1))))) else (impl_TextOk.l0 k x0 x6 (wrap64 (x7 + 1))))) else (none)) else (none)) else (some (decide ((x0.size : Int) ≤ 48)))
def impl_TextOk.f (k : Nat) (a0 : ByteArray) : Option (Bool) := impl_TextOk.l0 k a0 (a0.size : Int) 0
set_option maxHeartbeats 8000000 in
set_option maxRecDepth 100000 in
theorem impl_TextOk.calls (k : Nat) (a0 : ByteArray) (r : Bool) (w : World) (h : impl_TextOk.f k a0 = some r) :
  Calls Try.prog 57 #[.string a0] w fun e w' => e = .returned (.bool r) ∧ Drawn0 w w' := by
 have H : (impl_TextOk.l0 k a0 (a0.size : Int) 0) = some r := h
 clear h
 have H' := Ak H
 clear H
 go_enter Try.func57, Try.ntmps57
 go_wp2
 go_loopg [7] k (fun kq v7 w' => ∃ (x7_1 : Int), v7 = .int .i64 x7_1 ∧ Aside0 (impl_TextOk.l0 kq a0 (a0.size : Int) x7_1 = some r) ∧ Aside0 (kq ≤ k) ∧ Drawn0 w w')
 case atStart => exact ⟨(0), (by first | rfl | (simp; done) | (simp [*]; done)), H', ⟨Nat.le_refl _⟩, by repeat (first | exact Drawn0.refl _ | apply Drawn0.step)⟩
 case round =>
  clear H'
  obtain ⟨x7_1, rfl, HA, HK1, ⟨m1, rfl⟩⟩ := hrel
  cases gk with
  | zero => exact absurd HA.out (by simp [impl_TextOk.l0])
  | succ k1 =>
   have H := HA.out
   clear HA
   simp only [impl_TextOk.l0] at H
   by_cases c2 : x7_1 < (a0.size : Int)
   ·rw [if_pos c2] at H
    have c2b0 : decide (x7_1 < (a0.size : Int)) = true := decide_eq_true c2
    clear c2
    by_cases c3 : 0 ≤ x7_1
    ·rw [if_pos c3] at H
     have c3b0 : decide (0 ≤ x7_1) = true := decide_eq_true c3
     clear c3
     by_cases c4 : x7_1 < (a0.size : Int)
     ·rw [if_pos c4] at H
      have c4b0 : decide (x7_1 < (a0.size : Int)) = true := decide_eq_true c4
      clear c4
      by_cases c6 : (bt a0 x7_1) < 97
      ·rw [if_pos c6] at H
       have c6b0 : decide ((bt a0 x7_1) < 97) = true := decide_eq_true c6
       clear c6
       by_cases c7 : (bt a0 x7_1) < 48
       ·rw [if_pos c7] at H
        have c7b0 : decide ((bt a0 x7_1) < 48) = true := decide_eq_true c7
        clear c7
        by_cases c8 : (bt a0 x7_1) = 46
        ·rw [if_pos c8] at H
         have c8b0 : ((bt a0 x7_1) == 46) = true := beq_iff_eq.mpr c8
         have c8b1 : ((bt a0 x7_1) != 46) = false := bne_eq_false_iff_eq.mpr c8
         clear c8
         have H' := Ak H
         clear H
         have p5 : 0 ≤ (x7_1 : Int) := of_decide_eq_true (by first | (with_reducible assumption) | assumption)
         have q5 : x7_1 < (a0.size : Int) := of_decide_eq_true (by first | (with_reducible assumption) | assumption)
         have hx5 := bt_at a0 x7_1
         replace p5 := eq_true p5
         replace q5 := eq_true q5
         go_wp2
         go_roundg k1
         case measure => have := HK1.out; omega
         case rel => exact ⟨(wrap64 (x7_1 + 1)), (by first | rfl | (simp; done) | (simp [*]; done)), H', ⟨by have := HK1.out; omega⟩, by repeat (first | exact Drawn0.refl _ | apply Drawn0.step)⟩
        ·rw [if_neg c8] at H
         have c8b0 : ((bt a0 x7_1) == 46) = false := beq_eq_false_iff_ne.mpr c8
         have c8b1 : ((bt a0 x7_1) != 46) = true := bne_iff_ne.mpr c8
         obtain rfl := Option.some.inj H
         have p5 : 0 ≤ (x7_1 : Int) := of_decide_eq_true (by first | (with_reducible assumption) | assumption)
         have q5 : x7_1 < (a0.size : Int) := of_decide_eq_true (by first | (with_reducible assumption) | assumption)
         have hx5 := bt_at a0 x7_1
         replace p5 := eq_true p5
         replace q5 := eq_true q5
         go_wp2
         go_ret
         exact ⟨by first | rfl | (simp; done) | (simp [*]; done), by repeat (first | exact Drawn0.refl _ | apply Drawn0.step)⟩
       ·rw [if_neg c7] at H
        have c7b0 : decide ((bt a0 x7_1) < 48) = false := decide_eq_false c7
        clear c7
        by_cases c9 : (bt a0 x7_1) > 57
        ·rw [if_pos c9] at H
         have c9b0 : decide (57 < (bt a0 x7_1)) = true := decide_eq_true c9
         clear c9
         by_cases c10 : (bt a0 x7_1) = 46
         ·rw [if_pos c10] at H
          have c10b0 : ((bt a0 x7_1) == 46) = true := beq_iff_eq.mpr c10
          have c10b1 : ((bt a0 x7_1) != 46) = false := bne_eq_false_iff_eq.mpr c10
          clear c10
          have H' := Ak H
          clear H
          have p5 : 0 ≤ (x7_1 : Int) := of_decide_eq_true (by first | (with_reducible assumption) | assumption)
          have q5 : x7_1 < (a0.size : Int) := of_decide_eq_true (by first | (with_reducible assumption) | assumption)
          have hx5 := bt_at a0 x7_1
          replace p5 := eq_true p5
          replace q5 := eq_true q5
          go_wp2
          go_roundg k1
          case measure => have := HK1.out; omega
          case rel => exact ⟨(wrap64 (x7_1 + 1)), (by first | rfl | (simp; done) | (simp [*]; done)), H', ⟨by have := HK1.out; omega⟩, by repeat (first | exact Drawn0.refl _ | apply Drawn0.step)⟩
         ·rw [if_neg c10] at H
          have c10b0 : ((bt a0 x7_1) == 46) = false := beq_eq_false_iff_ne.mpr c10
          have c10b1 : ((bt a0 x7_1) != 46) = true := bne_iff_ne.mpr c10
          obtain rfl := Option.some.inj H
          have p5 : 0 ≤ (x7_1 : Int) := of_decide_eq_true (by first | (with_reducible assumption) | assumption)
          have q5 : x7_1 < (a0.size : Int) := of_decide_eq_true (by first | (with_reducible assumption) | assumption)
          have hx5 := bt_at a0 x7_1
          replace p5 := eq_true p5
          replace q5 := eq_true q5
          go_wp2
          go_ret
          exact ⟨by first | rfl | (simp; done) | (simp [*]; done), by repeat (first | exact Drawn0.refl _ | apply Drawn0.step)⟩
        ·rw [if_neg c9] at H
         have c9b0 : decide (57 < (bt a0 x7_1)) = false := decide_eq_false c9
         clear c9
         have H' := Ak H
         clear H
         have p5 : 0 ≤ (x7_1 : Int) := of_decide_eq_true (by first | (with_reducible assumption) | assumption)
         have q5 : x7_1 < (a0.size : Int) := of_decide_eq_true (by first | (with_reducible assumption) | assumption)
         have hx5 := bt_at a0 x7_1
         replace p5 := eq_true p5
         replace q5 := eq_true q5
         go_wp2
         go_roundg k1
         case measure => have := HK1.out; omega
         case rel => exact ⟨(wrap64 (x7_1 + 1)), (by first | rfl | (simp; done) | (simp [*]; done)), H', ⟨by have := HK1.out; omega⟩, by repeat (first | exact Drawn0.refl _ | apply Drawn0.step)⟩
      ·rw [if_neg c6] at H
       have c6b0 : decide ((bt a0 x7_1) < 97) = false := decide_eq_false c6
       clear c6
       by_cases c11 : (bt a0 x7_1) > 122
       ·rw [if_pos c11] at H
        have c11b0 : decide (122 < (bt a0 x7_1)) = true := decide_eq_true c11
        clear c11
        by_cases c12 : (bt a0 x7_1) < 48
        ·rw [if_pos c12] at H
         have c12b0 : decide ((bt a0 x7_1) < 48) = true := decide_eq_true c12
         clear c12
         by_cases c13 : (bt a0 x7_1) = 46
         ·rw [if_pos c13] at H
          have c13b0 : ((bt a0 x7_1) == 46) = true := beq_iff_eq.mpr c13
          have c13b1 : ((bt a0 x7_1) != 46) = false := bne_eq_false_iff_eq.mpr c13
          clear c13
          have H' := Ak H
          clear H
          have p5 : 0 ≤ (x7_1 : Int) := of_decide_eq_true (by first | (with_reducible assumption) | assumption)
          have q5 : x7_1 < (a0.size : Int) := of_decide_eq_true (by first | (with_reducible assumption) | assumption)
          have hx5 := bt_at a0 x7_1
          replace p5 := eq_true p5
          replace q5 := eq_true q5
          go_wp2
          go_roundg k1
          case measure => have := HK1.out; omega
          case rel => exact ⟨(wrap64 (x7_1 + 1)), (by first | rfl | (simp; done) | (simp [*]; done)), H', ⟨by have := HK1.out; omega⟩, by repeat (first | exact Drawn0.refl _ | apply Drawn0.step)⟩
         ·rw [if_neg c13] at H
          have c13b0 : ((bt a0 x7_1) == 46) = false := beq_eq_false_iff_ne.mpr c13
          have c13b1 : ((bt a0 x7_1) != 46) = true := bne_iff_ne.mpr c13
          obtain rfl := Option.some.inj H
          have p5 : 0 ≤ (x7_1 : Int) := of_decide_eq_true (by first | (with_reducible assumption) | assumption)
          have q5 : x7_1 < (a0.size : Int) := of_decide_eq_true (by first | (with_reducible assumption) | assumption)
          have hx5 := bt_at a0 x7_1
          replace p5 := eq_true p5
          replace q5 := eq_true q5
          go_wp2
          go_ret
          exact ⟨by first | rfl | (simp; done) | (simp [*]; done), by repeat (first | exact Drawn0.refl _ | apply Drawn0.step)⟩
        ·rw [if_neg c12] at H
         have c12b0 : decide ((bt a0 x7_1) < 48) = false := decide_eq_false c12
         clear c12
         by_cases c14 : (bt a0 x7_1) > 57
         ·rw [if_pos c14] at H
          have c14b0 : decide (57 < (bt a0 x7_1)) = true := decide_eq_true c14
          clear c14
          by_cases c15 : (bt a0 x7_1) = 46
          ·rw [if_pos c15] at H
           have c15b0 : ((bt a0 x7_1) == 46) = true := beq_iff_eq.mpr c15
           have c15b1 : ((bt a0 x7_1) != 46) = false := bne_eq_false_iff_eq.mpr c15
           clear c15
           have H' := Ak H
           clear H
           have p5 : 0 ≤ (x7_1 : Int) := of_decide_eq_true (by first | (with_reducible assumption) | assumption)
           have q5 : x7_1 < (a0.size : Int) := of_decide_eq_true (by first | (with_reducible assumption) | assumption)
           have hx5 := bt_at a0 x7_1
           replace p5 := eq_true p5
           replace q5 := eq_true q5
           go_wp2
           go_roundg k1
           case measure => have := HK1.out; omega
           case rel => exact ⟨(wrap64 (x7_1 + 1)), (by first | rfl | (simp; done) | (simp [*]; done)), H', ⟨by have := HK1.out; omega⟩, by repeat (first | exact Drawn0.refl _ | apply Drawn0.step)⟩
          ·rw [if_neg c15] at H
           have c15b0 : ((bt a0 x7_1) == 46) = false := beq_eq_false_iff_ne.mpr c15
           have c15b1 : ((bt a0 x7_1) != 46) = true := bne_iff_ne.mpr c15
           obtain rfl := Option.some.inj H
           have p5 : 0 ≤ (x7_1 : Int) := of_decide_eq_true (by first | (with_reducible assumption) | assumption)
           have q5 : x7_1 < (a0.size : Int) := of_decide_eq_true (by first | (with_reducible assumption) | assumption)
           have hx5 := bt_at a0 x7_1
           replace p5 := eq_true p5
           replace q5 := eq_true q5
           go_wp2
           go_ret
           exact ⟨by first | rfl | (simp; done) | (simp [*]; done), by repeat (first | exact Drawn0.refl _ | apply Drawn0.step)⟩
         ·rw [if_neg c14] at H
          have c14b0 : decide (57 < (bt a0 x7_1)) = false := decide_eq_false c14
          clear c14
          have H' := Ak H
          clear H
          have p5 : 0 ≤ (x7_1 : Int) := of_decide_eq_true (by first | (with_reducible assumption) | assumption)
          have q5 : x7_1 < (a0.size : Int) := of_decide_eq_true (by first | (with_reducible assumption) | assumption)
          have hx5 := bt_at a0 x7_1
          replace p5 := eq_true p5
          replace q5 := eq_true q5
          go_wp2
          go_roundg k1
          case measure => have := HK1.out; omega
          case rel => exact ⟨(wrap64 (x7_1 + 1)), (by first | rfl | (simp; done) | (simp [*]; done)), H', ⟨by have := HK1.out; omega⟩, by repeat (first | exact Drawn0.refl _ | apply Drawn0.step)⟩
       ·rw [if_neg c11] at H
        have c11b0 : decide (122 < (bt a0 x7_1)) = false := decide_eq_false c11
        clear c11
        have H' := Ak H
        clear H
        have p5 : 0 ≤ (x7_1 : Int) := of_decide_eq_true (by first | (with_reducible assumption) | assumption)
        have q5 : x7_1 < (a0.size : Int) := of_decide_eq_true (by first | (with_reducible assumption) | assumption)
        have hx5 := bt_at a0 x7_1
        replace p5 := eq_true p5
        replace q5 := eq_true q5
        go_wp2
        go_roundg k1
        case measure => have := HK1.out; omega
        case rel => exact ⟨(wrap64 (x7_1 + 1)), (by first | rfl | (simp; done) | (simp [*]; done)), H', ⟨by have := HK1.out; omega⟩, by repeat (first | exact Drawn0.refl _ | apply Drawn0.step)⟩
     ·rw [if_neg c4] at H
      exact absurd H (by simp)
    ·rw [if_neg c3] at H
     exact absurd H (by simp)
   ·rw [if_neg c2] at H
    have c2b0 : decide (x7_1 < (a0.size : Int)) = false := decide_eq_false c2
    clear c2
    obtain rfl := Option.some.inj H
    go_wp2
    go_ret
    exact ⟨by first | rfl | (simp; done) | (simp [*]; done), by repeat (first | exact Drawn0.refl _ | apply Drawn0.step)⟩
end Go.Proofs.Ytmekkapacbdbeaa.P

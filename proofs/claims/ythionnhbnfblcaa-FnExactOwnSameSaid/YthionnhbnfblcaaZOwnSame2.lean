/- Part 2 of the proof of FnExactOwnSame: words, contracts of callees, plain lemmas. -/
import Derived.Test.YthionnhbnfblcaaZOwnSame1
namespace Go.Proofs.Ythionnhbnfblcaa.P
open Go.RowKit Go.Proofs.YthionnhbnfblcaaW.PrintWords Go.Proofs.YthionnhbnfblcaaW.PrintLast Go.Proofs.YthionnhbnfblcaaW.PrintMore
attribute [local go_sem] max2_int min2_int max_two min_two max_three min_three max_four min_four   
set_option linter.unusedVariables false
set_option linter.unusedSimpArgs false
def spec_OwnSame.f (k : Nat) (a0_0 : ByteArray) (l0_1 : List (S38)) (l0_2 : List (S38)) (a1_0 : ByteArray) (l1_1 : List (S38)) (l1_2 : List (S38)) : Option (Bool) := if a0_0.toList = a1_0.toList then ((spec_l4Spans.f k l0_1 l1_1).bind fun t108 => (if t108 = true then ((spec_l4Spans.f k l0_2 l1_2).bind fun t109 => (some t109)) else (some false))) else (some false)
set_option maxHeartbeats 8000000 in
set_option maxRecDepth 100000 in
theorem spec_OwnSame.calls (k : Nat) (a0_0 : ByteArray) (A0_1 : Option Addr) (c0_1 : Nat) (l0_1 : List (S38)) (A0_2 : Option Addr) (c0_2 : Nat) (l0_2 : List (S38)) (a1_0 : ByteArray) (A1_1 : Option Addr) (c1_1 : Nat) (l1_1 : List (S38)) (A1_2 : Option Addr) (c1_2 : Nat) (l1_2 : List (S38)) (r : Bool) (w : World) (hr0_1 : Kd.C k38 w A0_1 l0_1.length l0_1) (hc0_1 : l0_1.length ≤ c0_1) (hr0_2 : Kd.C k38 w A0_2 l0_2.length l0_2) (hc0_2 : l0_2.length ≤ c0_2) (hr1_1 : Kd.C k38 w A1_1 l1_1.length l1_1) (hc1_1 : l1_1.length ≤ c1_1) (hr1_2 : Kd.C k38 w A1_2 l1_2.length l1_2) (hc1_2 : l1_2.length ≤ c1_2) (h : spec_OwnSame.f k a0_0 l0_1 l0_2 a1_0 l1_1 l1_2 = some r) :
    Calls Try.prog 14 #[.agg #[.string a0_0, .slice A0_1 l0_1.length c0_1, .slice A0_2 l0_2.length c0_2], .agg #[.string a1_0, .slice A1_1 l1_1.length c1_1, .slice A1_2 l1_2.length c1_2]] w fun e w' => e = .returned (.bool r) ∧ Below w.heap.size w w' := by
  have hu29 := Try.underlying29
  have HR0_1 := Aside0.mk hr0_1
  have HC0_1 := Aside0.mk hc0_1
  clear hr0_1 hc0_1
  have HR0_2 := Aside0.mk hr0_2
  have HC0_2 := Aside0.mk hc0_2
  clear hr0_2 hc0_2
  have HR1_1 := Aside0.mk hr1_1
  have HC1_1 := Aside0.mk hc1_1
  clear hr1_1 hc1_1
  have HR1_2 := Aside0.mk hr1_2
  have HC1_2 := Aside0.mk hc1_2
  clear hr1_2 hc1_2
  have HB := Aside0.mk (Below.refl w.heap.size w)
  have H : (if a0_0.toList = a1_0.toList then ((spec_l4Spans.f k l0_1 l1_1).bind fun t108 => (if t108 = true then ((spec_l4Spans.f k l0_2 l1_2).bind fun t109 => (some t109)) else (some false))) else (some false)) = some r := h
  clear h
  by_cases c3 : a0_0.toList = a1_0.toList
  · rw [if_pos c3] at H
    have c3b0 : (a0_0.toList == a1_0.toList) = true := beq_iff_eq.mpr c3
    have c3b1 : (a0_0.toList != a1_0.toList) = false := bne_eq_false_iff_eq.mpr c3
    clear c3
    replace H := Option.bind_eq_some_iff.mp H
    obtain ⟨t108, A40, H⟩ := H
    replace H : (if t108 = true then ((spec_l4Spans.f k l0_2 l1_2).bind fun t109 => (some t109)) else (some false)) = some r := H
    have A4 := Aside0.mk A40
    clear A40
    by_cases c5 : t108 = true
    · subst c5
      have H1 : ((spec_l4Spans.f k l0_2 l1_2).bind fun t109 => (some t109)) = some r := by rw [if_pos rfl] at H; exact H
      clear H
      have H := H1
      clear H1
      replace H := Option.bind_eq_some_iff.mp H
      obtain ⟨t109, A60, H⟩ := H
      replace H : (some t109) = some r := H
      have A6 := Aside0.mk A60
      clear A60
      obtain rfl := Option.some.inj H
      go_enter Try.func14, Try.ntmps14
      go_wp2_with (first | ((with_reducible refine gate_dst (N := 2) rfl ?_); refine box_event ?hg (N := 2) ?hd (cs := #[.string a0_0, .slice A0_1 l0_1.length c0_1, .slice A0_2 l0_2.length c0_2]) (t := 29) ?hr ?_; (case hd => rfl); (case hg => rfl); (case hr => first | (go_simp; done) | (go_simp; rfl)); intro gb106 hg w7 hbox hb; have n0_ := Aside0.mk (below_step (by repeat (first | (with_reducible first | exact HB.out | apply below_alloc | apply pw_below_drewN | apply below_drew1) | exact HB.out)) hb); have n1_ := Aside0.mk (hbox); have n2_ := Aside0.mk ((by rw [hg]; exact (below_size (by repeat (first | (with_reducible first | exact HB.out | apply below_alloc | apply pw_below_drewN | apply below_drew1) | exact HB.out))) : w.heap.size ≤ gb106)); have n3_ := Aside0.mk ((by rw [hg]; exact (below_size (by repeat (first | (with_reducible first | exact HB.out | apply below_alloc | apply pw_below_drewN | apply below_drew1) | exact HB.out))) : w.heap.size ≤ gb106)); clear HB; have HB := n0_; have BK106 := n1_; have GW106 := n2_; have GE106 := n3_; clear n0_ n1_ n2_ n3_; clear hb hbox hg) | ((with_reducible refine gate_dst (N := 3) rfl ?_); refine box_event ?hg (N := 3) ?hd (cs := #[.string a1_0, .slice A1_1 l1_1.length c1_1, .slice A1_2 l1_2.length c1_2]) (t := 29) ?hr ?_; (case hd => rfl); (case hg => rfl); (case hr => first | (go_simp; done) | (go_simp; rfl)); intro gb107 hg w8 hbox hb; have n0_ := Aside0.mk (blk_below (g := gb106) (o := .cells #[.string a0_0, .slice A0_1 l0_1.length c0_1, .slice A0_2 l0_2.length c0_2] 29 (0, 0)) (by (with_reducible repeat (first | refine blk_drewN ?_ _ | refine blk_drew ?_ | refine blk_alloc ?_ _)); exact BK106.out) hb); have n1_ := Aside0.mk (below_step (by repeat (first | (with_reducible first | exact HB.out | apply below_alloc | apply pw_below_drewN | apply below_drew1 | refine below_set ?_ GE106.out) | exact HB.out)) hb); have n2_ := Aside0.mk (hbox); have n3_ := Aside0.mk ((by rw [hg]; exact (below_size (by repeat (first | (with_reducible first | exact HB.out | apply below_alloc | apply pw_below_drewN | apply below_drew1 | refine below_set ?_ GE106.out) | exact HB.out))) : w.heap.size ≤ gb107)); have n4_ := Aside0.mk ((by rw [hg]; exact (below_size (by repeat (first | (with_reducible first | exact HB.out | apply below_alloc | apply pw_below_drewN | apply below_drew1 | refine below_set ?_ GE106.out) | exact HB.out))) : w.heap.size ≤ gb107)); have n5_ := Aside0.mk ((by rw [hg]; exact Nat.ne_of_lt (blk_lt (g := gb106) (o := .cells #[.string a0_0, .slice A0_1 l0_1.length c0_1, .slice A0_2 l0_2.length c0_2] 29 (0, 0)) (by (with_reducible repeat (first | refine blk_drewN ?_ _ | refine blk_drew ?_ | refine blk_alloc ?_ _)); exact BK106.out)) : gb106 ≠ gb107)); have n6_ := Aside0.mk ((by rw [hg]; exact Nat.ne_of_gt (blk_lt (g := gb106) (o := .cells #[.string a0_0, .slice A0_1 l0_1.length c0_1, .slice A0_2 l0_2.length c0_2] 29 (0, 0)) (by (with_reducible repeat (first | refine blk_drewN ?_ _ | refine blk_drew ?_ | refine blk_alloc ?_ _)); exact BK106.out)) : gb107 ≠ gb106)); clear BK106; clear HB; have BK106 := n0_; have HB := n1_; have BK107 := n2_; have GW107 := n3_; have GE107 := n4_; have NB106_107 := n5_; have NB107_106 := n6_; clear n0_ n1_ n2_ n3_ n4_ n5_ n6_; clear hb hbox hg; have hnb9 := NB106_107.out; have hnc9 := NB107_106.out; have hcz10_0 : w8.cell? ⟨gb106, 0, none⟩ = some (.string a0_0) := (blk_cell BK106.out 0).trans rfl; have hcz10_1 : w8.cell? ⟨gb106, 1, none⟩ = some (.slice A0_1 l0_1.length c0_1) := (blk_cell BK106.out 1).trans rfl; have hcz10_2 : w8.cell? ⟨gb106, 2, none⟩ = some (.slice A0_2 l0_2.length c0_2) := (blk_cell BK106.out 2).trans rfl; have hfz10_0 := blk_frozen BK106.out 0; have hfz10_1 := blk_frozen BK106.out 1; have hfz10_2 := blk_frozen BK106.out 2; have hcz11_0 : w8.cell? ⟨gb107, 0, none⟩ = some (.string a1_0) := (blk_cell BK107.out 0).trans rfl; have hcz11_1 : w8.cell? ⟨gb107, 1, none⟩ = some (.slice A1_1 l1_1.length c1_1) := (blk_cell BK107.out 1).trans rfl; have hcz11_2 : w8.cell? ⟨gb107, 2, none⟩ = some (.slice A1_2 l1_2.length c1_2) := (blk_cell BK107.out 2).trans rfl; have hfz11_0 := blk_frozen BK107.out 0; have hfz11_1 := blk_frozen BK107.out 1; have hfz11_2 := blk_frozen BK107.out 2) | (go_at_call 43; (with_reducible refine (spec_l4Spans.calls k _ _ l0_1 _ _ l1_1 true _ ?side1 ?side2 ?side3 ?side4 A4.out).mono ?_); (case side1 => repeat (first | exact (Kd.C_below HR0_1.out HB.out) | (with_reducible refine Kd.C_alloc ?_ _) | (with_reducible refine Kd.C_drewN ?_ _) | (with_reducible refine Kd.C_drew ?_))); (case side2 => exact HC0_1.out); (case side3 => repeat (first | exact (Kd.C_below HR1_1.out HB.out) | (with_reducible refine Kd.C_alloc ?_ _) | (with_reducible refine Kd.C_drewN ?_ _) | (with_reducible refine Kd.C_drew ?_))); (case side4 => exact HC1_1.out); rintro e w' ⟨rfl, ⟨nd, rfl⟩⟩) | (go_at_call 43; (with_reducible refine (spec_l4Spans.calls k _ _ l0_2 _ _ l1_2 t109 _ ?side1 ?side2 ?side3 ?side4 A6.out).mono ?_); (case side1 => repeat (first | exact (Kd.C_below HR0_2.out (by repeat (first | (with_reducible first | exact HB.out | apply below_alloc | apply pw_below_drewN | apply below_drew1 | refine below_set ?_ GE106.out | refine below_set ?_ GE107.out) | exact HB.out))) | (with_reducible refine Kd.C_alloc ?_ _) | (with_reducible refine Kd.C_drewN ?_ _) | (with_reducible refine Kd.C_drew ?_))); (case side2 => exact HC0_2.out); (case side3 => repeat (first | exact (Kd.C_below HR1_2.out (by repeat (first | (with_reducible first | exact HB.out | apply below_alloc | apply pw_below_drewN | apply below_drew1 | refine below_set ?_ GE106.out | refine below_set ?_ GE107.out) | exact HB.out))) | (with_reducible refine Kd.C_alloc ?_ _) | (with_reducible refine Kd.C_drewN ?_ _) | (with_reducible refine Kd.C_drew ?_))); (case side4 => exact HC1_2.out); rintro e w' ⟨rfl, ⟨nd, rfl⟩⟩))
      go_ret
      exact ⟨by first | rfl | (simp [errW_none, errW_some] <;> rfl) | (simp [*, errW_none, errW_some] <;> rfl), by repeat (first | (with_reducible first | exact HB.out | apply below_alloc | apply pw_below_drewN | apply below_drew1 | refine below_set ?_ GE106.out | refine below_set ?_ GE107.out) | exact HB.out)⟩
    · replace c5 := Bool.eq_false_iff.mpr c5
      subst c5
      have H1 : (some false) = some r := by rw [if_neg (show ¬ (false = true) by decide)] at H; exact H
      clear H
      have H := H1
      clear H1
      obtain rfl := Option.some.inj H
      go_enter Try.func14, Try.ntmps14
      go_wp2_with (first | ((with_reducible refine gate_dst (N := 2) rfl ?_); refine box_event ?hg (N := 2) ?hd (cs := #[.string a0_0, .slice A0_1 l0_1.length c0_1, .slice A0_2 l0_2.length c0_2]) (t := 29) ?hr ?_; (case hd => rfl); (case hg => rfl); (case hr => first | (go_simp; done) | (go_simp; rfl)); intro gb106 hg w12 hbox hb; have n0_ := Aside0.mk (below_step (by repeat (first | (with_reducible first | exact HB.out | apply below_alloc | apply pw_below_drewN | apply below_drew1) | exact HB.out)) hb); have n1_ := Aside0.mk (hbox); have n2_ := Aside0.mk ((by rw [hg]; exact (below_size (by repeat (first | (with_reducible first | exact HB.out | apply below_alloc | apply pw_below_drewN | apply below_drew1) | exact HB.out))) : w.heap.size ≤ gb106)); have n3_ := Aside0.mk ((by rw [hg]; exact (below_size (by repeat (first | (with_reducible first | exact HB.out | apply below_alloc | apply pw_below_drewN | apply below_drew1) | exact HB.out))) : w.heap.size ≤ gb106)); clear HB; have HB := n0_; have BK106 := n1_; have GW106 := n2_; have GE106 := n3_; clear n0_ n1_ n2_ n3_; clear hb hbox hg) | ((with_reducible refine gate_dst (N := 3) rfl ?_); refine box_event ?hg (N := 3) ?hd (cs := #[.string a1_0, .slice A1_1 l1_1.length c1_1, .slice A1_2 l1_2.length c1_2]) (t := 29) ?hr ?_; (case hd => rfl); (case hg => rfl); (case hr => first | (go_simp; done) | (go_simp; rfl)); intro gb107 hg w13 hbox hb; have n0_ := Aside0.mk (blk_below (g := gb106) (o := .cells #[.string a0_0, .slice A0_1 l0_1.length c0_1, .slice A0_2 l0_2.length c0_2] 29 (0, 0)) (by (with_reducible repeat (first | refine blk_drewN ?_ _ | refine blk_drew ?_ | refine blk_alloc ?_ _)); exact BK106.out) hb); have n1_ := Aside0.mk (below_step (by repeat (first | (with_reducible first | exact HB.out | apply below_alloc | apply pw_below_drewN | apply below_drew1 | refine below_set ?_ GE106.out) | exact HB.out)) hb); have n2_ := Aside0.mk (hbox); have n3_ := Aside0.mk ((by rw [hg]; exact (below_size (by repeat (first | (with_reducible first | exact HB.out | apply below_alloc | apply pw_below_drewN | apply below_drew1 | refine below_set ?_ GE106.out) | exact HB.out))) : w.heap.size ≤ gb107)); have n4_ := Aside0.mk ((by rw [hg]; exact (below_size (by repeat (first | (with_reducible first | exact HB.out | apply below_alloc | apply pw_below_drewN | apply below_drew1 | refine below_set ?_ GE106.out) | exact HB.out))) : w.heap.size ≤ gb107)); have n5_ := Aside0.mk ((by rw [hg]; exact Nat.ne_of_lt (blk_lt (g := gb106) (o := .cells #[.string a0_0, .slice A0_1 l0_1.length c0_1, .slice A0_2 l0_2.length c0_2] 29 (0, 0)) (by (with_reducible repeat (first | refine blk_drewN ?_ _ | refine blk_drew ?_ | refine blk_alloc ?_ _)); exact BK106.out)) : gb106 ≠ gb107)); have n6_ := Aside0.mk ((by rw [hg]; exact Nat.ne_of_gt (blk_lt (g := gb106) (o := .cells #[.string a0_0, .slice A0_1 l0_1.length c0_1, .slice A0_2 l0_2.length c0_2] 29 (0, 0)) (by (with_reducible repeat (first | refine blk_drewN ?_ _ | refine blk_drew ?_ | refine blk_alloc ?_ _)); exact BK106.out)) : gb107 ≠ gb106)); clear BK106; clear HB; have BK106 := n0_; have HB := n1_; have BK107 := n2_; have GW107 := n3_; have GE107 := n4_; have NB106_107 := n5_; have NB107_106 := n6_; clear n0_ n1_ n2_ n3_ n4_ n5_ n6_; clear hb hbox hg; have hnb14 := NB106_107.out; have hnc14 := NB107_106.out; have hcz15_0 : w13.cell? ⟨gb106, 0, none⟩ = some (.string a0_0) := (blk_cell BK106.out 0).trans rfl; have hcz15_1 : w13.cell? ⟨gb106, 1, none⟩ = some (.slice A0_1 l0_1.length c0_1) := (blk_cell BK106.out 1).trans rfl; have hcz15_2 : w13.cell? ⟨gb106, 2, none⟩ = some (.slice A0_2 l0_2.length c0_2) := (blk_cell BK106.out 2).trans rfl; have hfz15_0 := blk_frozen BK106.out 0; have hfz15_1 := blk_frozen BK106.out 1; have hfz15_2 := blk_frozen BK106.out 2; have hcz16_0 : w13.cell? ⟨gb107, 0, none⟩ = some (.string a1_0) := (blk_cell BK107.out 0).trans rfl; have hcz16_1 : w13.cell? ⟨gb107, 1, none⟩ = some (.slice A1_1 l1_1.length c1_1) := (blk_cell BK107.out 1).trans rfl; have hcz16_2 : w13.cell? ⟨gb107, 2, none⟩ = some (.slice A1_2 l1_2.length c1_2) := (blk_cell BK107.out 2).trans rfl; have hfz16_0 := blk_frozen BK107.out 0; have hfz16_1 := blk_frozen BK107.out 1; have hfz16_2 := blk_frozen BK107.out 2) | (go_at_call 43; (with_reducible refine (spec_l4Spans.calls k _ _ l0_1 _ _ l1_1 false _ ?side1 ?side2 ?side3 ?side4 A4.out).mono ?_); (case side1 => repeat (first | exact (Kd.C_below HR0_1.out HB.out) | (with_reducible refine Kd.C_alloc ?_ _) | (with_reducible refine Kd.C_drewN ?_ _) | (with_reducible refine Kd.C_drew ?_))); (case side2 => exact HC0_1.out); (case side3 => repeat (first | exact (Kd.C_below HR1_1.out HB.out) | (with_reducible refine Kd.C_alloc ?_ _) | (with_reducible refine Kd.C_drewN ?_ _) | (with_reducible refine Kd.C_drew ?_))); (case side4 => exact HC1_1.out); rintro e w' ⟨rfl, ⟨nd, rfl⟩⟩))
      go_ret
      exact ⟨by first | rfl | (simp [errW_none, errW_some] <;> rfl) | (simp [*, errW_none, errW_some] <;> rfl), by repeat (first | (with_reducible first | exact HB.out | apply below_alloc | apply pw_below_drewN | apply below_drew1 | refine below_set ?_ GE106.out | refine below_set ?_ GE107.out) | exact HB.out)⟩
  · rw [if_neg c3] at H
    have c3b0 : (a0_0.toList == a1_0.toList) = false := beq_eq_false_iff_ne.mpr c3
    have c3b1 : (a0_0.toList != a1_0.toList) = true := bne_iff_ne.mpr c3
    obtain rfl := Option.some.inj H
    go_enter Try.func14, Try.ntmps14
    go_wp2_with (first | ((with_reducible refine gate_dst (N := 2) rfl ?_); refine box_event ?hg (N := 2) ?hd (cs := #[.string a0_0, .slice A0_1 l0_1.length c0_1, .slice A0_2 l0_2.length c0_2]) (t := 29) ?hr ?_; (case hd => rfl); (case hg => rfl); (case hr => first | (go_simp; done) | (go_simp; rfl)); intro gb106 hg w17 hbox hb; have n0_ := Aside0.mk (below_step (by repeat (first | (with_reducible first | exact HB.out | apply below_alloc | apply pw_below_drewN | apply below_drew1) | exact HB.out)) hb); have n1_ := Aside0.mk (hbox); have n2_ := Aside0.mk ((by rw [hg]; exact (below_size (by repeat (first | (with_reducible first | exact HB.out | apply below_alloc | apply pw_below_drewN | apply below_drew1) | exact HB.out))) : w.heap.size ≤ gb106)); have n3_ := Aside0.mk ((by rw [hg]; exact (below_size (by repeat (first | (with_reducible first | exact HB.out | apply below_alloc | apply pw_below_drewN | apply below_drew1) | exact HB.out))) : w.heap.size ≤ gb106)); clear HB; have HB := n0_; have BK106 := n1_; have GW106 := n2_; have GE106 := n3_; clear n0_ n1_ n2_ n3_; clear hb hbox hg) | ((with_reducible refine gate_dst (N := 3) rfl ?_); refine box_event ?hg (N := 3) ?hd (cs := #[.string a1_0, .slice A1_1 l1_1.length c1_1, .slice A1_2 l1_2.length c1_2]) (t := 29) ?hr ?_; (case hd => rfl); (case hg => rfl); (case hr => first | (go_simp; done) | (go_simp; rfl)); intro gb107 hg w18 hbox hb; have n0_ := Aside0.mk (blk_below (g := gb106) (o := .cells #[.string a0_0, .slice A0_1 l0_1.length c0_1, .slice A0_2 l0_2.length c0_2] 29 (0, 0)) (by (with_reducible repeat (first | refine blk_drewN ?_ _ | refine blk_drew ?_ | refine blk_alloc ?_ _)); exact BK106.out) hb); have n1_ := Aside0.mk (below_step (by repeat (first | (with_reducible first | exact HB.out | apply below_alloc | apply pw_below_drewN | apply below_drew1 | refine below_set ?_ GE106.out) | exact HB.out)) hb); have n2_ := Aside0.mk (hbox); have n3_ := Aside0.mk ((by rw [hg]; exact (below_size (by repeat (first | (with_reducible first | exact HB.out | apply below_alloc | apply pw_below_drewN | apply below_drew1 | refine below_set ?_ GE106.out) | exact HB.out))) : w.heap.size ≤ gb107)); have n4_ := Aside0.mk ((by rw [hg]; exact (below_size (by repeat (first | (with_reducible first | exact HB.out | apply below_alloc | apply pw_below_drewN | apply below_drew1 | refine below_set ?_ GE106.out) | exact HB.out))) : w.heap.size ≤ gb107)); have n5_ := Aside0.mk ((by rw [hg]; exact Nat.ne_of_lt (blk_lt (g := gb106) (o := .cells #[.string a0_0, .slice A0_1 l0_1.length c0_1, .slice A0_2 l0_2.length c0_2] 29 (0, 0)) (by (with_reducible repeat (first | refine blk_drewN ?_ _ | refine blk_drew ?_ | refine blk_alloc ?_ _)); exact BK106.out)) : gb106 ≠ gb107)); have n6_ := Aside0.mk ((by rw [hg]; exact Nat.ne_of_gt (blk_lt (g := gb106) (o := .cells #[.string a0_0, .slice A0_1 l0_1.length c0_1, .slice A0_2 l0_2.length c0_2] 29 (0, 0)) (by (with_reducible repeat (first | refine blk_drewN ?_ _ | refine blk_drew ?_ | refine blk_alloc ?_ _)); exact BK106.out)) : gb107 ≠ gb106)); clear BK106; clear HB; have BK106 := n0_; have HB := n1_; have BK107 := n2_; have GW107 := n3_; have GE107 := n4_; have NB106_107 := n5_; have NB107_106 := n6_; clear n0_ n1_ n2_ n3_ n4_ n5_ n6_; clear hb hbox hg; have hnb19 := NB106_107.out; have hnc19 := NB107_106.out; have hcz20_0 : w18.cell? ⟨gb106, 0, none⟩ = some (.string a0_0) := (blk_cell BK106.out 0).trans rfl; have hcz20_1 : w18.cell? ⟨gb106, 1, none⟩ = some (.slice A0_1 l0_1.length c0_1) := (blk_cell BK106.out 1).trans rfl; have hcz20_2 : w18.cell? ⟨gb106, 2, none⟩ = some (.slice A0_2 l0_2.length c0_2) := (blk_cell BK106.out 2).trans rfl; have hfz20_0 := blk_frozen BK106.out 0; have hfz20_1 := blk_frozen BK106.out 1; have hfz20_2 := blk_frozen BK106.out 2; have hcz21_0 : w18.cell? ⟨gb107, 0, none⟩ = some (.string a1_0) := (blk_cell BK107.out 0).trans rfl; have hcz21_1 : w18.cell? ⟨gb107, 1, none⟩ = some (.slice A1_1 l1_1.length c1_1) := (blk_cell BK107.out 1).trans rfl; have hcz21_2 : w18.cell? ⟨gb107, 2, none⟩ = some (.slice A1_2 l1_2.length c1_2) := (blk_cell BK107.out 2).trans rfl; have hfz21_0 := blk_frozen BK107.out 0; have hfz21_1 := blk_frozen BK107.out 1; have hfz21_2 := blk_frozen BK107.out 2))
    go_ret
    exact ⟨by first | rfl | (simp [errW_none, errW_some] <;> rfl) | (simp [*, errW_none, errW_some] <;> rfl), by repeat (first | (with_reducible first | exact HB.out | apply below_alloc | apply pw_below_drewN | apply below_drew1 | refine below_set ?_ GE106.out | refine below_set ?_ GE107.out) | exact HB.out)⟩
end Go.Proofs.Ythionnhbnfblcaa.P
namespace Go.Proofs.Ythionnhbnfblcaa.P
open Go.RowKit Go.Proofs.YthionnhbnfblcaaW.PrintWords Go.Proofs.YthionnhbnfblcaaW.PrintLast Go.Proofs.YthionnhbnfblcaaW.PrintMore
attribute [local go_sem] max2_int min2_int max_two min_two max_three min_three max_four min_four   
set_option linter.unusedVariables false
set_option linter.unusedSimpArgs false
def impl_OwnSame.f (k : Nat) (a0_0 : ByteArray) (l0_1 : List (S38)) (l0_2 : List (S38)) (a1_0 : ByteArray) (l1_1 : List (S38)) (l1_2 : List (S38)) : Option (Bool) := if a0_0.toList = a1_0.toList then ((impl_Span_45.f k l0_1 l1_1).bind fun t133 => (if t133 = true then ((impl_Span_45.f k l0_2 l1_2).bind fun t134 => (some t134)) else (some false))) else (some false)
set_option maxHeartbeats 8000000 in
set_option maxRecDepth 100000 in
theorem impl_OwnSame.calls (k : Nat) (a0_0 : ByteArray) (A0_1 : Option Addr) (c0_1 : Nat) (l0_1 : List (S38)) (A0_2 : Option Addr) (c0_2 : Nat) (l0_2 : List (S38)) (a1_0 : ByteArray) (A1_1 : Option Addr) (c1_1 : Nat) (l1_1 : List (S38)) (A1_2 : Option Addr) (c1_2 : Nat) (l1_2 : List (S38)) (r : Bool) (w : World) (hr0_1 : Kd.C k38 w A0_1 l0_1.length l0_1) (hc0_1 : l0_1.length ≤ c0_1) (hr0_2 : Kd.C k38 w A0_2 l0_2.length l0_2) (hc0_2 : l0_2.length ≤ c0_2) (hr1_1 : Kd.C k38 w A1_1 l1_1.length l1_1) (hc1_1 : l1_1.length ≤ c1_1) (hr1_2 : Kd.C k38 w A1_2 l1_2.length l1_2) (hc1_2 : l1_2.length ≤ c1_2) (h : impl_OwnSame.f k a0_0 l0_1 l0_2 a1_0 l1_1 l1_2 = some r) :
    Calls Try.prog 16 #[.agg #[.string a0_0, .slice A0_1 l0_1.length c0_1, .slice A0_2 l0_2.length c0_2], .agg #[.string a1_0, .slice A1_1 l1_1.length c1_1, .slice A1_2 l1_2.length c1_2]] w fun e w' => e = .returned (.bool r) ∧ Below w.heap.size w w' := by
  have hu29 := Try.underlying29
  have HR0_1 := Aside0.mk hr0_1
  have HC0_1 := Aside0.mk hc0_1
  clear hr0_1 hc0_1
  have HR0_2 := Aside0.mk hr0_2
  have HC0_2 := Aside0.mk hc0_2
  clear hr0_2 hc0_2
  have HR1_1 := Aside0.mk hr1_1
  have HC1_1 := Aside0.mk hc1_1
  clear hr1_1 hc1_1
  have HR1_2 := Aside0.mk hr1_2
  have HC1_2 := Aside0.mk hc1_2
  clear hr1_2 hc1_2
  have HB := Aside0.mk (Below.refl w.heap.size w)
  have H : (if a0_0.toList = a1_0.toList then ((impl_Span_45.f k l0_1 l1_1).bind fun t133 => (if t133 = true then ((impl_Span_45.f k l0_2 l1_2).bind fun t134 => (some t134)) else (some false))) else (some false)) = some r := h
  clear h
  by_cases c3 : a0_0.toList = a1_0.toList
  · rw [if_pos c3] at H
    have c3b0 : (a0_0.toList == a1_0.toList) = true := beq_iff_eq.mpr c3
    have c3b1 : (a0_0.toList != a1_0.toList) = false := bne_eq_false_iff_eq.mpr c3
    clear c3
    replace H := Option.bind_eq_some_iff.mp H
    obtain ⟨t133, A40, H⟩ := H
    replace H : (if t133 = true then ((impl_Span_45.f k l0_2 l1_2).bind fun t134 => (some t134)) else (some false)) = some r := H
    have A4 := Aside0.mk A40
    clear A40
    by_cases c5 : t133 = true
    · subst c5
      have H1 : ((impl_Span_45.f k l0_2 l1_2).bind fun t134 => (some t134)) = some r := by rw [if_pos rfl] at H; exact H
      clear H
      have H := H1
      clear H1
      replace H := Option.bind_eq_some_iff.mp H
      obtain ⟨t134, A60, H⟩ := H
      replace H : (some t134) = some r := H
      have A6 := Aside0.mk A60
      clear A60
      obtain rfl := Option.some.inj H
      go_enter Try.func16, Try.ntmps16
      go_wp2_with (first | ((with_reducible refine gate_dst (N := 2) rfl ?_); refine box_event ?hg (N := 2) ?hd (cs := #[.string a0_0, .slice A0_1 l0_1.length c0_1, .slice A0_2 l0_2.length c0_2]) (t := 29) ?hr ?_; (case hd => rfl); (case hg => rfl); (case hr => first | (go_simp; done) | (go_simp; rfl)); intro gb131 hg w7 hbox hb; have n0_ := Aside0.mk (below_step (by repeat (first | (with_reducible first | exact HB.out | apply below_alloc | apply pw_below_drewN | apply below_drew1) | exact HB.out)) hb); have n1_ := Aside0.mk (hbox); have n2_ := Aside0.mk ((by rw [hg]; exact (below_size (by repeat (first | (with_reducible first | exact HB.out | apply below_alloc | apply pw_below_drewN | apply below_drew1) | exact HB.out))) : w.heap.size ≤ gb131)); have n3_ := Aside0.mk ((by rw [hg]; exact (below_size (by repeat (first | (with_reducible first | exact HB.out | apply below_alloc | apply pw_below_drewN | apply below_drew1) | exact HB.out))) : w.heap.size ≤ gb131)); clear HB; have HB := n0_; have BK131 := n1_; have GW131 := n2_; have GE131 := n3_; clear n0_ n1_ n2_ n3_; clear hb hbox hg) | ((with_reducible refine gate_dst (N := 3) rfl ?_); refine box_event ?hg (N := 3) ?hd (cs := #[.string a1_0, .slice A1_1 l1_1.length c1_1, .slice A1_2 l1_2.length c1_2]) (t := 29) ?hr ?_; (case hd => rfl); (case hg => rfl); (case hr => first | (go_simp; done) | (go_simp; rfl)); intro gb132 hg w8 hbox hb; have n0_ := Aside0.mk (blk_below (g := gb131) (o := .cells #[.string a0_0, .slice A0_1 l0_1.length c0_1, .slice A0_2 l0_2.length c0_2] 29 (0, 0)) (by (with_reducible repeat (first | refine blk_drewN ?_ _ | refine blk_drew ?_ | refine blk_alloc ?_ _)); exact BK131.out) hb); have n1_ := Aside0.mk (below_step (by repeat (first | (with_reducible first | exact HB.out | apply below_alloc | apply pw_below_drewN | apply below_drew1 | refine below_set ?_ GE131.out) | exact HB.out)) hb); have n2_ := Aside0.mk (hbox); have n3_ := Aside0.mk ((by rw [hg]; exact (below_size (by repeat (first | (with_reducible first | exact HB.out | apply below_alloc | apply pw_below_drewN | apply below_drew1 | refine below_set ?_ GE131.out) | exact HB.out))) : w.heap.size ≤ gb132)); have n4_ := Aside0.mk ((by rw [hg]; exact (below_size (by repeat (first | (with_reducible first | exact HB.out | apply below_alloc | apply pw_below_drewN | apply below_drew1 | refine below_set ?_ GE131.out) | exact HB.out))) : w.heap.size ≤ gb132)); have n5_ := Aside0.mk ((by rw [hg]; exact Nat.ne_of_lt (blk_lt (g := gb131) (o := .cells #[.string a0_0, .slice A0_1 l0_1.length c0_1, .slice A0_2 l0_2.length c0_2] 29 (0, 0)) (by (with_reducible repeat (first | refine blk_drewN ?_ _ | refine blk_drew ?_ | refine blk_alloc ?_ _)); exact BK131.out)) : gb131 ≠ gb132)); have n6_ := Aside0.mk ((by rw [hg]; exact Nat.ne_of_gt (blk_lt (g := gb131) (o := .cells #[.string a0_0, .slice A0_1 l0_1.length c0_1, .slice A0_2 l0_2.length c0_2] 29 (0, 0)) (by (with_reducible repeat (first | refine blk_drewN ?_ _ | refine blk_drew ?_ | refine blk_alloc ?_ _)); exact BK131.out)) : gb132 ≠ gb131)); clear BK131; clear HB; have BK131 := n0_; have HB := n1_; have BK132 := n2_; have GW132 := n3_; have GE132 := n4_; have NB131_132 := n5_; have NB132_131 := n6_; clear n0_ n1_ n2_ n3_ n4_ n5_ n6_; clear hb hbox hg; have hnb9 := NB131_132.out; have hnc9 := NB132_131.out; have hcz10_0 : w8.cell? ⟨gb131, 0, none⟩ = some (.string a0_0) := (blk_cell BK131.out 0).trans rfl; have hcz10_1 : w8.cell? ⟨gb131, 1, none⟩ = some (.slice A0_1 l0_1.length c0_1) := (blk_cell BK131.out 1).trans rfl; have hcz10_2 : w8.cell? ⟨gb131, 2, none⟩ = some (.slice A0_2 l0_2.length c0_2) := (blk_cell BK131.out 2).trans rfl; have hfz10_0 := blk_frozen BK131.out 0; have hfz10_1 := blk_frozen BK131.out 1; have hfz10_2 := blk_frozen BK131.out 2; have hcz11_0 : w8.cell? ⟨gb132, 0, none⟩ = some (.string a1_0) := (blk_cell BK132.out 0).trans rfl; have hcz11_1 : w8.cell? ⟨gb132, 1, none⟩ = some (.slice A1_1 l1_1.length c1_1) := (blk_cell BK132.out 1).trans rfl; have hcz11_2 : w8.cell? ⟨gb132, 2, none⟩ = some (.slice A1_2 l1_2.length c1_2) := (blk_cell BK132.out 2).trans rfl; have hfz11_0 := blk_frozen BK132.out 0; have hfz11_1 := blk_frozen BK132.out 1; have hfz11_2 := blk_frozen BK132.out 2) | (go_at_call 45; (with_reducible refine (impl_Span_45.calls k _ _ l0_1 _ _ l1_1 true _ ?side1 ?side2 ?side3 ?side4 A4.out).mono ?_); (case side1 => repeat (first | exact (Kd.C_below HR0_1.out HB.out) | (with_reducible refine Kd.C_alloc ?_ _) | (with_reducible refine Kd.C_drewN ?_ _) | (with_reducible refine Kd.C_drew ?_))); (case side2 => exact HC0_1.out); (case side3 => repeat (first | exact (Kd.C_below HR1_1.out HB.out) | (with_reducible refine Kd.C_alloc ?_ _) | (with_reducible refine Kd.C_drewN ?_ _) | (with_reducible refine Kd.C_drew ?_))); (case side4 => exact HC1_1.out); rintro e w' ⟨rfl, ⟨nd, rfl⟩⟩) | (go_at_call 45; (with_reducible refine (impl_Span_45.calls k _ _ l0_2 _ _ l1_2 t134 _ ?side1 ?side2 ?side3 ?side4 A6.out).mono ?_); (case side1 => repeat (first | exact (Kd.C_below HR0_2.out (by repeat (first | (with_reducible first | exact HB.out | apply below_alloc | apply pw_below_drewN | apply below_drew1 | refine below_set ?_ GE131.out | refine below_set ?_ GE132.out) | exact HB.out))) | (with_reducible refine Kd.C_alloc ?_ _) | (with_reducible refine Kd.C_drewN ?_ _) | (with_reducible refine Kd.C_drew ?_))); (case side2 => exact HC0_2.out); (case side3 => repeat (first | exact (Kd.C_below HR1_2.out (by repeat (first | (with_reducible first | exact HB.out | apply below_alloc | apply pw_below_drewN | apply below_drew1 | refine below_set ?_ GE131.out | refine below_set ?_ GE132.out) | exact HB.out))) | (with_reducible refine Kd.C_alloc ?_ _) | (with_reducible refine Kd.C_drewN ?_ _) | (with_reducible refine Kd.C_drew ?_))); (case side4 => exact HC1_2.out); rintro e w' ⟨rfl, ⟨nd, rfl⟩⟩))
      go_ret
      exact ⟨by first | rfl | (simp [errW_none, errW_some] <;> rfl) | (simp [*, errW_none, errW_some] <;> rfl), by repeat (first | (with_reducible first | exact HB.out | apply below_alloc | apply pw_below_drewN | apply below_drew1 | refine below_set ?_ GE131.out | refine below_set ?_ GE132.out) | exact HB.out)⟩
    · replace c5 := Bool.eq_false_iff.mpr c5
      subst c5
      have H1 : (some false) = some r := by rw [if_neg (show ¬ (false = true) by decide)] at H; exact H
      clear H
      have H := H1
      clear H1
      obtain rfl := Option.some.inj H
      go_enter Try.func16, Try.ntmps16
      go_wp2_with (first | ((with_reducible refine gate_dst (N := 2) rfl ?_); refine box_event ?hg (N := 2) ?hd (cs := #[.string a0_0, .slice A0_1 l0_1.length c0_1, .slice A0_2 l0_2.length c0_2]) (t := 29) ?hr ?_; (case hd => rfl); (case hg => rfl); (case hr => first | (go_simp; done) | (go_simp; rfl)); intro gb131 hg w12 hbox hb; have n0_ := Aside0.mk (below_step (by repeat (first | (with_reducible first | exact HB.out | apply below_alloc | apply pw_below_drewN | apply below_drew1) | exact HB.out)) hb); have n1_ := Aside0.mk (hbox); have n2_ := Aside0.mk ((by rw [hg]; exact (below_size (by repeat (first | (with_reducible first | exact HB.out | apply below_alloc | apply pw_below_drewN | apply below_drew1) | exact HB.out))) : w.heap.size ≤ gb131)); have n3_ := Aside0.mk ((by rw [hg]; exact (below_size (by repeat (first | (with_reducible first | exact HB.out | apply below_alloc | apply pw_below_drewN | apply below_drew1) | exact HB.out))) : w.heap.size ≤ gb131)); clear HB; have HB := n0_; have BK131 := n1_; have GW131 := n2_; have GE131 := n3_; clear n0_ n1_ n2_ n3_; clear hb hbox hg) | ((with_reducible refine gate_dst (N := 3) rfl ?_); refine box_event ?hg (N := 3) ?hd (cs := #[.string a1_0, .slice A1_1 l1_1.length c1_1, .slice A1_2 l1_2.length c1_2]) (t := 29) ?hr ?_; (case hd => rfl); (case hg => rfl); (case hr => first | (go_simp; done) | (go_simp; rfl)); intro gb132 hg w13 hbox hb; have n0_ := Aside0.mk (blk_below (g := gb131) (o := .cells #[.string a0_0, .slice A0_1 l0_1.length c0_1, .slice A0_2 l0_2.length c0_2] 29 (0, 0)) (by (with_reducible repeat (first | refine blk_drewN ?_ _ | refine blk_drew ?_ | refine blk_alloc ?_ _)); exact BK131.out) hb); have n1_ := Aside0.mk (below_step (by repeat (first | (with_reducible first | exact HB.out | apply below_alloc | apply pw_below_drewN | apply below_drew1 | refine below_set ?_ GE131.out) | exact HB.out)) hb); have n2_ := Aside0.mk (hbox); have n3_ := Aside0.mk ((by rw [hg]; exact (below_size (by repeat (first | (with_reducible first | exact HB.out | apply below_alloc | apply pw_below_drewN | apply below_drew1 | refine below_set ?_ GE131.out) | exact HB.out))) : w.heap.size ≤ gb132)); have n4_ := Aside0.mk ((by rw [hg]; exact (below_size (by repeat (first | (with_reducible first | exact HB.out | apply below_alloc | apply pw_below_drewN | apply below_drew1 | refine below_set ?_ GE131.out) | exact HB.out))) : w.heap.size ≤ gb132)); have n5_ := Aside0.mk ((by rw [hg]; exact Nat.ne_of_lt (blk_lt (g := gb131) (o := .cells #[.string a0_0, .slice A0_1 l0_1.length c0_1, .slice A0_2 l0_2.length c0_2] 29 (0, 0)) (by (with_reducible repeat (first | refine blk_drewN ?_ _ | refine blk_drew ?_ | refine blk_alloc ?_ _)); exact BK131.out)) : gb131 ≠ gb132)); have n6_ := Aside0.mk ((by rw [hg]; exact Nat.ne_of_gt (blk_lt (g := gb131) (o := .cells #[.string a0_0, .slice A0_1 l0_1.length c0_1, .slice A0_2 l0_2.length c0_2] 29 (0, 0)) (by (with_reducible repeat (first | refine blk_drewN ?_ _ | refine blk_drew ?_ | refine blk_alloc ?_ _)); exact BK131.out)) : gb132 ≠ gb131)); clear BK131; clear HB; have BK131 := n0_; have HB := n1_; have BK132 := n2_; have GW132 := n3_; have GE132 := n4_; have NB131_132 := n5_; have NB132_131 := n6_; clear n0_ n1_ n2_ n3_ n4_ n5_ n6_; clear hb hbox hg; have hnb14 := NB131_132.out; have hnc14 := NB132_131.out; have hcz15_0 : w13.cell? ⟨gb131, 0, none⟩ = some (.string a0_0) := (blk_cell BK131.out 0).trans rfl; have hcz15_1 : w13.cell? ⟨gb131, 1, none⟩ = some (.slice A0_1 l0_1.length c0_1) := (blk_cell BK131.out 1).trans rfl; have hcz15_2 : w13.cell? ⟨gb131, 2, none⟩ = some (.slice A0_2 l0_2.length c0_2) := (blk_cell BK131.out 2).trans rfl; have hfz15_0 := blk_frozen BK131.out 0; have hfz15_1 := blk_frozen BK131.out 1; have hfz15_2 := blk_frozen BK131.out 2; have hcz16_0 : w13.cell? ⟨gb132, 0, none⟩ = some (.string a1_0) := (blk_cell BK132.out 0).trans rfl; have hcz16_1 : w13.cell? ⟨gb132, 1, none⟩ = some (.slice A1_1 l1_1.length c1_1) := (blk_cell BK132.out 1).trans rfl; have hcz16_2 : w13.cell? ⟨gb132, 2, none⟩ = some (.slice A1_2 l1_2.length c1_2) := (blk_cell BK132.out 2).trans rfl; have hfz16_0 := blk_frozen BK132.out 0; have hfz16_1 := blk_frozen BK132.out 1; have hfz16_2 := blk_frozen BK132.out 2) | (go_at_call 45; (with_reducible refine (impl_Span_45.calls k _ _ l0_1 _ _ l1_1 false _ ?side1 ?side2 ?side3 ?side4 A4.out).mono ?_); (case side1 => repeat (first | exact (Kd.C_below HR0_1.out HB.out) | (with_reducible refine Kd.C_alloc ?_ _) | (with_reducible refine Kd.C_drewN ?_ _) | (with_reducible refine Kd.C_drew ?_))); (case side2 => exact HC0_1.out); (case side3 => repeat (first | exact (Kd.C_below HR1_1.out HB.out) | (with_reducible refine Kd.C_alloc ?_ _) | (with_reducible refine Kd.C_drewN ?_ _) | (with_reducible refine Kd.C_drew ?_))); (case side4 => exact HC1_1.out); rintro e w' ⟨rfl, ⟨nd, rfl⟩⟩))
      go_ret
      exact ⟨by first | rfl | (simp [errW_none, errW_some] <;> rfl) | (simp [*, errW_none, errW_some] <;> rfl), by repeat (first | (with_reducible first | exact HB.out | apply below_alloc | apply pw_below_drewN | apply below_drew1 | refine below_set ?_ GE131.out | refine below_set ?_ GE132.out) | exact HB.out)⟩
  · rw [if_neg c3] at H
    have c3b0 : (a0_0.toList == a1_0.toList) = false := beq_eq_false_iff_ne.mpr c3
    have c3b1 : (a0_0.toList != a1_0.toList) = true := bne_iff_ne.mpr c3
    obtain rfl := Option.some.inj H
    go_enter Try.func16, Try.ntmps16
    go_wp2_with (first | ((with_reducible refine gate_dst (N := 2) rfl ?_); refine box_event ?hg (N := 2) ?hd (cs := #[.string a0_0, .slice A0_1 l0_1.length c0_1, .slice A0_2 l0_2.length c0_2]) (t := 29) ?hr ?_; (case hd => rfl); (case hg => rfl); (case hr => first | (go_simp; done) | (go_simp; rfl)); intro gb131 hg w17 hbox hb; have n0_ := Aside0.mk (below_step (by repeat (first | (with_reducible first | exact HB.out | apply below_alloc | apply pw_below_drewN | apply below_drew1) | exact HB.out)) hb); have n1_ := Aside0.mk (hbox); have n2_ := Aside0.mk ((by rw [hg]; exact (below_size (by repeat (first | (with_reducible first | exact HB.out | apply below_alloc | apply pw_below_drewN | apply below_drew1) | exact HB.out))) : w.heap.size ≤ gb131)); have n3_ := Aside0.mk ((by rw [hg]; exact (below_size (by repeat (first | (with_reducible first | exact HB.out | apply below_alloc | apply pw_below_drewN | apply below_drew1) | exact HB.out))) : w.heap.size ≤ gb131)); clear HB; have HB := n0_; have BK131 := n1_; have GW131 := n2_; have GE131 := n3_; clear n0_ n1_ n2_ n3_; clear hb hbox hg) | ((with_reducible refine gate_dst (N := 3) rfl ?_); refine box_event ?hg (N := 3) ?hd (cs := #[.string a1_0, .slice A1_1 l1_1.length c1_1, .slice A1_2 l1_2.length c1_2]) (t := 29) ?hr ?_; (case hd => rfl); (case hg => rfl); (case hr => first | (go_simp; done) | (go_simp; rfl)); intro gb132 hg w18 hbox hb; have n0_ := Aside0.mk (blk_below (g := gb131) (o := .cells #[.string a0_0, .slice A0_1 l0_1.length c0_1, .slice A0_2 l0_2.length c0_2] 29 (0, 0)) (by (with_reducible repeat (first | refine blk_drewN ?_ _ | refine blk_drew ?_ | refine blk_alloc ?_ _)); exact BK131.out) hb); have n1_ := Aside0.mk (below_step (by repeat (first | (with_reducible first | exact HB.out | apply below_alloc | apply pw_below_drewN | apply below_drew1 | refine below_set ?_ GE131.out) | exact HB.out)) hb); have n2_ := Aside0.mk (hbox); have n3_ := Aside0.mk ((by rw [hg]; exact (below_size (by repeat (first | (with_reducible first | exact HB.out | apply below_alloc | apply pw_below_drewN | apply below_drew1 | refine below_set ?_ GE131.out) | exact HB.out))) : w.heap.size ≤ gb132)); have n4_ := Aside0.mk ((by rw [hg]; exact (below_size (by repeat (first | (with_reducible first | exact HB.out | apply below_alloc | apply pw_below_drewN | apply below_drew1 | refine below_set ?_ GE131.out) | exact HB.out))) : w.heap.size ≤ gb132)); have n5_ := Aside0.mk ((by rw [hg]; exact Nat.ne_of_lt (blk_lt (g := gb131) (o := .cells #[.string a0_0, .slice A0_1 l0_1.length c0_1, .slice A0_2 l0_2.length c0_2] 29 (0, 0)) (by (with_reducible repeat (first | refine blk_drewN ?_ _ | refine blk_drew ?_ | refine blk_alloc ?_ _)); exact BK131.out)) : gb131 ≠ gb132)); have n6_ := Aside0.mk ((by rw [hg]; exact Nat.ne_of_gt (blk_lt (g := gb131) (o := .cells #[.string a0_0, .slice A0_1 l0_1.length c0_1, .slice A0_2 l0_2.length c0_2] 29 (0, 0)) (by (with_reducible repeat (first | refine blk_drewN ?_ _ | refine blk_drew ?_ | refine blk_alloc ?_ _)); exact BK131.out)) : gb132 ≠ gb131)); clear BK131; clear HB; have BK131 := n0_; have HB := n1_; have BK132 := n2_; have GW132 := n3_; have GE132 := n4_; have NB131_132 := n5_; have NB132_131 := n6_; clear n0_ n1_ n2_ n3_ n4_ n5_ n6_; clear hb hbox hg; have hnb19 := NB131_132.out; have hnc19 := NB132_131.out; have hcz20_0 : w18.cell? ⟨gb131, 0, none⟩ = some (.string a0_0) := (blk_cell BK131.out 0).trans rfl; have hcz20_1 : w18.cell? ⟨gb131, 1, none⟩ = some (.slice A0_1 l0_1.length c0_1) := (blk_cell BK131.out 1).trans rfl; have hcz20_2 : w18.cell? ⟨gb131, 2, none⟩ = some (.slice A0_2 l0_2.length c0_2) := (blk_cell BK131.out 2).trans rfl; have hfz20_0 := blk_frozen BK131.out 0; have hfz20_1 := blk_frozen BK131.out 1; have hfz20_2 := blk_frozen BK131.out 2; have hcz21_0 : w18.cell? ⟨gb132, 0, none⟩ = some (.string a1_0) := (blk_cell BK132.out 0).trans rfl; have hcz21_1 : w18.cell? ⟨gb132, 1, none⟩ = some (.slice A1_1 l1_1.length c1_1) := (blk_cell BK132.out 1).trans rfl; have hcz21_2 : w18.cell? ⟨gb132, 2, none⟩ = some (.slice A1_2 l1_2.length c1_2) := (blk_cell BK132.out 2).trans rfl; have hfz21_0 := blk_frozen BK132.out 0; have hfz21_1 := blk_frozen BK132.out 1; have hfz21_2 := blk_frozen BK132.out 2))
    go_ret
    exact ⟨by first | rfl | (simp [errW_none, errW_some] <;> rfl) | (simp [*, errW_none, errW_some] <;> rfl), by repeat (first | (with_reducible first | exact HB.out | apply below_alloc | apply pw_below_drewN | apply below_drew1 | refine below_set ?_ GE131.out | refine below_set ?_ GE132.out) | exact HB.out)⟩
end Go.Proofs.Ythionnhbnfblcaa.P
namespace Go.Proofs.Ythionnhbnfblcaa.P
open Go.RowKit Go.Proofs.YthionnhbnfblcaaW.PrintWords
section
variable {w : World} {v u : Value} {o p : Ow} {m : Int}
theorem szOwn_c (hv : OwL w v o) (hz : o.text.size ≤ 9223372036854775807) (h0 : 0 ≤ m) (hm : m ≤ 1048576) :
    Calls Try.prog 13 #[v, .int .i64 m] w fun e w' => ∃ r : Int, e = .returned (.int .i64 r) ∧ r ≤ m ∧ -1 ≤ r ∧ (0 ≤ r → OwSmall o) ∧ Below w.heap.size w w' := by
  have hlen := hv.lens
  obtain ⟨A1, c1, A2, c2, rfl, l1, l2, e1, e2, h1, h2⟩ := hv
  have n1 : o.hv.length = l1.length := by rw [e1, List.length_map]
  have n2 : o.dt.length = l2.length := by rw [e2, List.length_map]
  rw [n1, n2]
  have ew : wrap64 (m - (o.text.size : Int)) = m - o.text.size := w64 (by omega) (by omega)
  have go : ∀ r : Int, laws_szOwn.f o.text l1 l2 m = some r → r ≤ m → -1 ≤ r → (0 ≤ r → OwSmall o) → Calls Try.prog 13 #[.agg #[.string o.text, .slice A1 l1.length c1, .slice A2 l2.length c2], .int .i64 m] w fun e w' => ∃ r : Int, e = .returned (.int .i64 r) ∧ r ≤ m ∧ -1 ≤ r ∧ (0 ≤ r → OwSmall o) ∧ Below w.heap.size w w' :=
    fun r hr a b c => (laws_szOwn.calls o.text A1 c1 l1 A2 c2 l2 m r w h1.1 h1.2 h2.1 h2.2 hr).mono fun e w' ⟨he, hb⟩ => ⟨r, he, a, b, c, hb⟩
  by_cases hc : m - (o.text.size : Int) < 0
  · exact go (-1) (by unfold laws_szOwn.f; rw [ew, if_pos hc]) (by omega) (by omega) (fun h => by omega)
  obtain ⟨r1, q1, a1, b1, d1⟩ := laws_szSpanS_ev (l := l1) (m := m - o.text.size) (by omega) (by omega) (by omega)
  by_cases hc1 : r1 < 0
  · exact go (-1) (by unfold laws_szOwn.f; rw [ew, if_neg hc, q1, Option.bind_some, if_pos hc1]) (by omega) (by omega) (fun h => by omega)
  obtain ⟨r2, q2, a2, b2, d2⟩ := laws_szSpanS_ev (l := l2) (m := r1) (by omega) (by omega) (by omega)
  by_cases hc2 : r2 < 0
  · exact go (-1) (by unfold laws_szOwn.f; rw [ew, if_neg hc, q1, Option.bind_some, if_neg hc1, q2, Option.bind_some, if_pos hc2]) (by omega) (by omega) (fun h => by omega)
  · have := d1 (by omega)
    have := d2 (by omega)
    exact go r2 (by unfold laws_szOwn.f; rw [ew, if_neg hc, q1, Option.bind_some, if_neg hc1, q2, Option.bind_some, if_neg hc2]) (by omega) (by omega) (fun h => ⟨by omega, by omega, by omega⟩)
theorem toOwn_c (hv : OwL w v o) (hs : OwSmall o) :
    Calls Try.prog 15 #[v] w fun e w' => ∃ u, e = .returned u ∧ OwR w' w.heap.size w'.heap.size u o ∧ Below w.heap.size w w' := by
  obtain ⟨A1, c1, A2, c2, rfl, l1, l2, e1, e2, h1, h2⟩ := hv
  obtain ⟨text, hv, dt⟩ := o
  simp only at e1 e2
  subst e1 e2
  obtain ⟨s0, s1, s2⟩ := hs
  rw [List.length_map] at s1 s2
  have he : Ev (fun k => laws_toOwn.f k text l1 l2) (text, l1.map toSp, l2.map toSp) := by
    unfold laws_toOwn.f
    exact Ev.bind (laws_toSpanS_ev s1) (Ev.bind (laws_toSpanS_ev s2) (Ev.now _))
  obtain ⟨k, hk⟩ := he.rounds
  simp only [List.length_map]
  refine (laws_toOwn.calls k text A1 c1 l1 A2 c2 l2 _ _ _ w h1.1 h1.2 h2.1 h2.2 hk).mono ?_
  rintro e w' ⟨v1, v2, he, r1, r2, hb⟩
  exact ⟨_, he, OwR.mk (o := ⟨text, l1.map toSp, l2.map toSp⟩) r1 r2, hb⟩
theorem ow_eq (o p : Ow) : decide (o = p) = (decide (o.text = p.text) && (decide (o.hv = p.hv) && decide (o.dt = p.dt))) := by
  obtain ⟨a0, a1, a2⟩ := o
  obtain ⟨b0, b1, b2⟩ := p
  rw [Bool.eq_iff_iff]
  simp
theorem eqOwn_ev (hl : o.hv.length ≤ 9223372036854775807 ∧ o.dt.length ≤ 9223372036854775807) : Ev (fun k => laws_eqOwn.f k o.text o.hv o.dt p.text p.hv p.dt) (decide (o = p)) := by
  rw [ow_eq]
  unfold laws_eqOwn.f
  by_cases h : o.text.toList = p.text.toList
  · rw [decide_eq_true (toList_inj.1 h)]
    simp only [if_pos h, Bool.true_and]
    refine Ev.bind (laws_eqSpanS_ev hl.1) ?_
    cases decide (o.hv = p.hv)
    · exact Ev.now _
    refine Ev.bind (laws_eqSpanS_ev hl.2) ?_
    cases decide (o.dt = p.dt)
    · exact Ev.now _
    exact Ev.now _
  · rw [decide_eq_false (fun e => h (toList_inj.2 e))]
    simp only [if_neg h, Bool.false_and]
    exact Ev.now _
theorem eqOwn_t (hv : OwC w v o) (hu : OwC w u o) :
    Calls Try.prog 17 #[v, u] w fun e w' => e = .returned (.bool true) ∧ Below w.heap.size w w' := by
  have he := eqOwn_ev (o := o) (p := o) hv.lens
  rw [decide_eq_true rfl] at he
  obtain ⟨k, hk⟩ := he.rounds
  obtain ⟨A1, c1, A2, c2, rfl, g1, g2⟩ := hv
  obtain ⟨B1, d1, B2, d2, rfl, k1, k2⟩ := hu
  exact laws_eqOwn.calls k o.text A1 c1 o.hv A2 c2 o.dt o.text B1 d1 o.hv B2 d2 o.dt _ w g1.1 g1.2 g2.1 g2.2 k1.1 k1.2 k2.1 k2.2 hk
theorem spec_OwnSame_ev (hl : o.hv.length ≤ 9223372036854775807 ∧ o.dt.length ≤ 9223372036854775807) : Ev (fun k => spec_OwnSame.f k o.text o.hv o.dt p.text p.hv p.dt) (decide (o = p)) := by
  rw [ow_eq]
  unfold spec_OwnSame.f
  by_cases h : o.text.toList = p.text.toList
  · rw [decide_eq_true (toList_inj.1 h)]
    simp only [if_pos h, Bool.true_and]
    refine Ev.bind (spec_l4Spans_ev hl.1) ?_
    cases decide (o.hv = p.hv)
    · exact Ev.now _
    exact Ev.bind (spec_l4Spans_ev hl.2) (Ev.now _)
  · rw [decide_eq_false (fun e => h (toList_inj.2 e))]
    simp only [if_neg h, Bool.false_and]
    exact Ev.now _
theorem impl_OwnSame_ev (hl : o.hv.length ≤ 9223372036854775807 ∧ o.dt.length ≤ 9223372036854775807) : Ev (fun k => impl_OwnSame.f k o.text o.hv o.dt p.text p.hv p.dt) (decide (o = p)) := by
  rw [ow_eq]
  unfold impl_OwnSame.f
  by_cases h : o.text.toList = p.text.toList
  · rw [decide_eq_true (toList_inj.1 h)]
    simp only [if_pos h, Bool.true_and]
    refine Ev.bind (impl_Span_45_ev hl.1) ?_
    cases decide (o.hv = p.hv)
    · exact Ev.now _
    exact Ev.bind (impl_Span_45_ev hl.2) (Ev.now _)
  · rw [decide_eq_false (fun e => h (toList_inj.2 e))]
    simp only [if_neg h, Bool.false_and]
    exact Ev.now _
theorem spec_OwnSame_c {q : Bool} (hv : OwC w v o) (hu : OwC w u p) (hq : decide (o = p) = q) :
    Calls Try.prog 14 #[v, u] w fun e w' => e = .returned (.bool q) ∧ Below w.heap.size w w' := by
  have he := spec_OwnSame_ev (o := o) (p := p) hv.lens
  rw [hq] at he
  obtain ⟨k, hk⟩ := he.rounds
  obtain ⟨A1, c1, A2, c2, rfl, g1, g2⟩ := hv
  obtain ⟨B1, d1, B2, d2, rfl, k1, k2⟩ := hu
  exact spec_OwnSame.calls k o.text A1 c1 o.hv A2 c2 o.dt p.text B1 d1 p.hv B2 d2 p.dt _ w g1.1 g1.2 g2.1 g2.2 k1.1 k1.2 k2.1 k2.2 hk
theorem impl_OwnSame_c {q : Bool} (hv : OwC w v o) (hu : OwC w u p) (hq : decide (o = p) = q) :
    Calls Try.prog 16 #[v, u] w fun e w' => e = .returned (.bool q) ∧ Below w.heap.size w w' := by
  have he := impl_OwnSame_ev (o := o) (p := p) hv.lens
  rw [hq] at he
  obtain ⟨k, hk⟩ := he.rounds
  obtain ⟨A1, c1, A2, c2, rfl, g1, g2⟩ := hv
  obtain ⟨B1, d1, B2, d2, rfl, k1, k2⟩ := hu
  exact impl_OwnSame.calls k o.text A1 c1 o.hv A2 c2 o.dt p.text B1 d1 p.hv B2 d2 p.dt _ w g1.1 g1.2 g2.1 g2.2 k1.1 k1.2 k2.1 k2.2 hk
end
end Go.Proofs.Ythionnhbnfblcaa.P
namespace Go.Proofs.Ythionnhbnfblcaa.P
open Go.RowKit Go.Proofs.YthionnhbnfblcaaW.PrintWords Go.Proofs.YthionnhbnfblcaaW.PrintLast Go.Proofs.YthionnhbnfblcaaW.PrintMore
set_option linter.unusedVariables false
set_option linter.unusedSimpArgs false
set_option maxHeartbeats 8000000 in
set_option maxRecDepth 100000 in
theorem FnExactOwnSame_walk {w : World} {v0 : Value} {s0 : Ow} (hv0 : OwL w v0 s0) (hz0 : s0.text.size ≤ 9223372036854775807) {v1 : Value} {s1 : Ow} (hv1 : OwL w v1 s1) (hz1 : s1.text.size ≤ 9223372036854775807) :
    Calls Try.prog 3 #[v0, v1] w fun e w' => e = .returned (.bool true) ∧ Below w.heap.size w w' := by
  have HV0 := Aside0.mk hv0
  have HZ0 := Aside0.mk hz0
  obtain ⟨A0_1, c0_1, A0_2, c0_2, rfl, _⟩ := hv0
  clear hz0
  have HV1 := Aside0.mk hv1
  have HZ1 := Aside0.mk hz1
  obtain ⟨A1_1, c1_1, A1_2, c1_2, rfl, _⟩ := hv1
  clear hz1
  obtain ⟨q, hq⟩ : ∃ q_, decide (s0 = s1) = q_ := ⟨_, rfl⟩
  have HQ := Aside0.mk hq
  clear hq
  have hu24 := Try.underlying24
  have hu29 := Try.underlying29
  go_enter Try.func3, Try.ntmps3
  go_wp2_with (first | ((with_reducible refine gate_dst (N := 2) rfl ?_); refine ev_box ?hg (N := 2) ?hd (cs := #[.string s0.text, .slice A0_1 s0.hv.length c0_1, .slice A0_2 s0.dt.length c0_2]) (t := 24) ?hr ?_; (case hd => rfl); (case hg => rfl); (case hr => first | (go_simp; done) | (go_simp; rfl)); intro g2 W1 HG4 BK2 HB3) | ((with_reducible refine gate_dst (N := 3) rfl ?_); refine ev_box ?hg (N := 3) ?hd (cs := #[.string s1.text, .slice A1_1 s1.hv.length c1_1, .slice A1_2 s1.dt.length c1_2]) (t := 24) ?hr ?_; (case hd => rfl); (case hg => rfl); (case hr => first | (go_simp; done) | (go_simp; rfl)); intro g3 W5 HG8 BK6 HB7) | ((with_reducible refine gate_dst (N := 10) rfl ?_); refine ev_load rfl (N := 10) rfl rfl (g := g2) rfl (cs := #[.string s0.text, .slice A0_1 s0.hv.length c0_1, .slice A0_2 s0.dt.length c0_2]) (Bk.below BK2.out HB7.out) hu24 rfl (by kernel_rfl) ?_))
  refine (szOwn_c (OwL.below HV0.out (below_step HB3.out HB7.out)) HZ0.out (by omega) (by omega)).mono ?_
  rintro e W12 ⟨r9, rfl, _, _, hr10, hb13⟩
  have HB14 := Aside0.mk hb13
  clear hb13
  by_cases hcr9 : r9 < 0
  · have hdr9 : decide (r9 < 0) = true := decide_eq_true hcr9
    go_wp2
    go_ret
    exact ⟨rfl, (below_step (below_step HB3.out HB7.out) HB14.out)⟩
  have hdr9 : decide (r9 < 0) = false := decide_eq_false hcr9
  have HS11 := Aside0.mk (hr10 (by omega))
  clear hr10
  go_wp2_with (first | ((with_reducible refine gate_dst (N := 15) rfl ?_); refine ev_load rfl (N := 15) rfl rfl (g := g3) rfl (cs := #[.string s1.text, .slice A1_1 s1.hv.length c1_1, .slice A1_2 s1.dt.length c1_2]) (Bk.below BK6.out HB14.out) hu24 rfl (by kernel_rfl) ?_))
  refine (szOwn_c (OwL.below HV1.out (below_step (below_step HB3.out HB7.out) HB14.out)) HZ1.out (by omega) (by omega)).mono ?_
  rintro e W18 ⟨r15, rfl, _, _, hr16, hb19⟩
  have HB20 := Aside0.mk hb19
  clear hb19
  by_cases hcr15 : r15 < 0
  · have hdr15 : decide (r15 < 0) = true := decide_eq_true hcr15
    go_wp2
    go_ret
    exact ⟨rfl, (below_step (below_step (below_step HB3.out HB7.out) HB14.out) HB20.out)⟩
  have hdr15 : decide (r15 < 0) = false := decide_eq_false hcr15
  have HS17 := Aside0.mk (hr16 (by omega))
  clear hr16
  go_wp2_with (fail)
  refine start_ (n := 6) (S := fun w' => Bk w' g2 #[.string s0.text, .slice A0_1 s0.hv.length c0_1, .slice A0_2 s0.dt.length c0_2] 24 ∧ Bk w' g3 #[.string s1.text, .slice A1_1 s1.hv.length c1_1, .slice A1_2 s1.dt.length c1_2] 24) (ds := []) #[false, false, false, false, false, false] (by kernel_rfl) rfl rfl ⟨(show Bk W18 g2 #[.string s0.text, .slice A0_1 s0.hv.length c0_1, .slice A0_2 s0.dt.length c0_2] 24 from (Bk.below BK2.out (below_step (below_step HB7.out HB14.out) HB20.out))), (show Bk W18 g3 #[.string s1.text, .slice A1_1 s1.hv.length c1_1, .slice A1_2 s1.dt.length c1_2] 24 from (Bk.below BK6.out (below_step HB14.out HB20.out)))⟩ (fun hHeld => ?_)
  clear hHeld
  refine world_at (w := W18) (below_drew0 _) (fun W21 HB22 => ?_)
  refine take_ (i := 0) (N := some 20) (v := .agg #[.string s0.text, .slice A0_1 s0.hv.length c0_1, .slice A0_2 s0.dt.length c0_2]) (a' := ?_) #[true, false, false, false, false, false] rfl rfl (by kernel_rfl) (fun _ _ _ h => h) (Or.inl ⟨by rfl, ?_⟩) ⟨(Bk.below BK2.out (below_step (below_step (below_step HB7.out HB14.out) HB20.out) HB22.out)), (Bk.below BK6.out (below_step (below_step HB14.out HB20.out) HB22.out))⟩ ?_ ?_
  · rintro w' ⟨s0_, s1_⟩
    exact run_load_ev rfl rfl s0_ hu24 rfl (by kernel_rfl)
  rotate_left
  · simp only [Act.put, List.setIfInBounds_toArray, List.set_cons_zero, List.set_cons_succ, i64_w, i32_w]
    rfl
  refine take_ (i := 2) (N := some 22) (v := .agg #[.string s1.text, .slice A1_1 s1.hv.length c1_1, .slice A1_2 s1.dt.length c1_2]) (a' := ?_) #[true, false, true, false, false, false] rfl rfl (by kernel_rfl) (fun _ _ _ h => h) (Or.inl ⟨by rfl, ?_⟩) ⟨(Bk.below BK2.out (below_step (below_step (below_step HB7.out HB14.out) HB20.out) HB22.out)), (Bk.below BK6.out (below_step (below_step HB14.out HB20.out) HB22.out))⟩ ?_ ?_
  · rintro w' ⟨s0_, s1_⟩
    exact run_load_ev rfl rfl s1_ hu24 rfl (by kernel_rfl)
  rotate_left
  · simp only [Act.put, List.setIfInBounds_toArray, List.set_cons_zero, List.set_cons_succ, i64_w, i32_w]
    rfl
  refine one_ (i := 1) (N := some 21) #[true, true, true, false, false, false] rfl rfl (by kernel_rfl) (by decide) (fun K hK => ?_)
  refine goes_ Try.func15 (by kernel_rfl) rfl #[.agg #[.string s0.text, .slice A0_1 s0.hv.length c0_1, .slice A0_2 s0.dt.length c0_2]] (by rfl) rfl rfl (by (try simp only [List.map_toArray, List.map_cons, List.map_nil]); first | done | rfl) ?_
  refine (toOwn_c (OwL.below HV0.out (below_step (below_step (below_step (below_step HB3.out HB7.out) HB14.out) HB20.out) HB22.out)) HS11.out).mono ?_
  rintro e W26 ⟨u23, rfl, hr24, hb27⟩
  have HB28 := Aside0.mk hb27
  clear hb27
  have HRs25 := Aside0.mk hr24
  obtain ⟨as25_1, ds25_1, as25_2, ds25_2, rfl, _⟩ := hr24.toC
  clear hr24
  refine ⟨_, rfl, ?_⟩
  refine hK.out _ _ ⟨(Bk.below BK2.out (below_step (below_step (below_step (below_step HB7.out HB14.out) HB20.out) HB22.out) HB28.out)), (Bk.below BK6.out (below_step (below_step (below_step HB14.out HB20.out) HB22.out) HB28.out))⟩ (fun hHeld => ?_)
  clear hHeld hK K
  refine norm_ (a' := ?_) ?_ ?_
  rotate_left
  · show Act.put _ (some 21) _ = _
    simp only [Act.put, List.setIfInBounds_toArray, List.set_cons_zero, List.set_cons_succ, i64_w, i32_w]
    rfl
  refine one_ (i := 3) (N := some 23) #[true, true, true, true, false, false] rfl rfl (by kernel_rfl) (by decide) (fun K hK => ?_)
  refine goes_ Try.func15 (by kernel_rfl) rfl #[.agg #[.string s1.text, .slice A1_1 s1.hv.length c1_1, .slice A1_2 s1.dt.length c1_2]] (by rfl) rfl rfl (by (try simp only [List.map_toArray, List.map_cons, List.map_nil]); first | done | rfl) ?_
  refine (toOwn_c (OwL.below HV1.out (below_step (below_step (below_step (below_step (below_step HB3.out HB7.out) HB14.out) HB20.out) HB22.out) HB28.out)) HS17.out).mono ?_
  rintro e W32 ⟨u29, rfl, hr30, hb33⟩
  have HB34 := Aside0.mk hb33
  clear hb33
  have HRs31 := Aside0.mk hr30
  obtain ⟨as31_1, ds31_1, as31_2, ds31_2, rfl, _⟩ := hr30.toC
  clear hr30
  refine ⟨_, rfl, ?_⟩
  refine hK.out _ _ ⟨(Bk.below BK2.out (below_step (below_step (below_step (below_step (below_step HB7.out HB14.out) HB20.out) HB22.out) HB28.out) HB34.out)), (Bk.below BK6.out (below_step (below_step (below_step (below_step HB14.out HB20.out) HB22.out) HB28.out) HB34.out))⟩ (fun hHeld => ?_)
  clear hHeld hK K
  refine norm_ (a' := ?_) ?_ ?_
  rotate_left
  · show Act.put _ (some 23) _ = _
    simp only [Act.put, List.setIfInBounds_toArray, List.set_cons_zero, List.set_cons_succ, i64_w, i32_w]
    rfl
  refine one_ (i := 4) (N := some 24) #[true, true, true, true, true, false] rfl rfl (by kernel_rfl) (by decide) (fun K hK => ?_)
  refine goes_ Try.func14 (by kernel_rfl) rfl #[.agg #[.string s0.text, .slice as25_1 s0.hv.length ds25_1, .slice as25_2 s0.dt.length ds25_2], .agg #[.string s1.text, .slice as31_1 s1.hv.length ds31_1, .slice as31_2 s1.dt.length ds31_2]] (by rfl) rfl rfl (by (try simp only [List.map_toArray, List.map_cons, List.map_nil]); first | done | rfl) ?_
  refine (spec_OwnSame_c (OwR.toC (OwR.below HRs25.out HB34.out)) (OwR.toC HRs31.out) HQ.out).mono ?_
  rintro e W35 ⟨rfl, hb36⟩
  have HB37 := Aside0.mk hb36
  clear hb36
  refine ⟨_, rfl, ?_⟩
  refine hK.out _ _ ⟨(Bk.below BK2.out (below_step (below_step (below_step (below_step (below_step (below_step HB7.out HB14.out) HB20.out) HB22.out) HB28.out) HB34.out) HB37.out)), (Bk.below BK6.out (below_step (below_step (below_step (below_step (below_step HB14.out HB20.out) HB22.out) HB28.out) HB34.out) HB37.out))⟩ (fun hHeld => ?_)
  clear hHeld hK K
  refine norm_ (a' := ?_) ?_ ?_
  rotate_left
  · show Act.put _ (some 24) _ = _
    simp only [Act.put, List.setIfInBounds_toArray, List.set_cons_zero, List.set_cons_succ, i64_w, i32_w]
    rfl
  refine pure_ (i := 5) (N := some 6) (v := ?_) (a' := ?_) #[true, true, true, true, true, true] rfl rfl (by kernel_rfl) (fun _ _ _ h => h) (Or.inl ⟨by rfl, ?_⟩) ?_ ?_
  rotate_left
  · intro w'
    go_simp
    with_reducible rfl
  rotate_left
  · simp only [Act.put, List.setIfInBounds_toArray, List.set_cons_zero, List.set_cons_succ, i64_w, i32_w]
    rfl
  refine done_ (by kernel_rfl) ?_
  go_wp2_with (first | ((with_reducible refine gate_dst (N := 25) rfl ?_); refine ev_load rfl (N := 25) rfl rfl (g := g2) rfl (cs := #[.string s0.text, .slice A0_1 s0.hv.length c0_1, .slice A0_2 s0.dt.length c0_2]) (Bk.below BK2.out (below_step (below_step (below_step (below_step (below_step (below_step HB7.out HB14.out) HB20.out) HB22.out) HB28.out) HB34.out) HB37.out)) hu24 rfl (by kernel_rfl) ?_))
  refine (toOwn_c (OwL.below HV0.out (below_step (below_step (below_step (below_step (below_step (below_step (below_step HB3.out HB7.out) HB14.out) HB20.out) HB22.out) HB28.out) HB34.out) HB37.out)) HS11.out).mono ?_
  rintro e W41 ⟨u38, rfl, hr39, hb42⟩
  have HB43 := Aside0.mk hb42
  clear hb42
  have HRs40 := Aside0.mk hr39
  obtain ⟨as40_1, ds40_1, as40_2, ds40_2, rfl, _⟩ := hr39.toC
  clear hr39
  go_wp2_with (first | ((with_reducible refine gate_dst (N := 7) rfl ?_); refine ev_box ?hg (N := 7) ?hd (cs := #[.string ⟨#[]⟩, .slice none 0 0, .slice none 0 0]) (t := 29) ?hr ?_; (case hd => rfl); (case hg => rfl); (case hr => first | (go_simp; done) | (go_simp; rfl)); intro g7 W44 HG47 BK45 HB46) | ((with_reducible refine gate_store (t := 29) (p := 7) rfl ?_); refine ev_store rfl rfl rfl (g := g7) rfl (cs := #[.string s0.text, .slice as40_1 s0.hv.length ds40_1, .slice as40_2 s0.dt.length ds40_2]) rfl BK45.out (by kernel_rfl) rfl rfl ?_; intro W48 BK49 HB50; have HB51 := Aside0.mk (below_new HG47.out HB46.out HB50.out); clear BK45 HB46 HB50) | ((with_reducible refine gate_dst (N := 27) rfl ?_); refine ev_load rfl (N := 27) rfl rfl (g := g3) rfl (cs := #[.string s1.text, .slice A1_1 s1.hv.length c1_1, .slice A1_2 s1.dt.length c1_2]) (Bk.below BK6.out (below_step (below_step (below_step (below_step (below_step (below_step (below_step HB14.out HB20.out) HB22.out) HB28.out) HB34.out) HB37.out) HB43.out) HB51.out)) hu24 rfl (by kernel_rfl) ?_))
  refine (toOwn_c (OwL.below HV1.out (below_step (below_step (below_step (below_step (below_step (below_step (below_step (below_step (below_step HB3.out HB7.out) HB14.out) HB20.out) HB22.out) HB28.out) HB34.out) HB37.out) HB43.out) HB51.out)) HS17.out).mono ?_
  rintro e W55 ⟨u52, rfl, hr53, hb56⟩
  have HB57 := Aside0.mk hb56
  clear hb56
  have HRs54 := Aside0.mk hr53
  obtain ⟨as54_1, ds54_1, as54_2, ds54_2, rfl, _⟩ := hr53.toC
  clear hr53
  go_wp2_with (first | ((with_reducible refine gate_dst (N := 8) rfl ?_); refine ev_box ?hg (N := 8) ?hd (cs := #[.string ⟨#[]⟩, .slice none 0 0, .slice none 0 0]) (t := 29) ?hr ?_; (case hd => rfl); (case hg => rfl); (case hr => first | (go_simp; done) | (go_simp; rfl)); intro g8 W58 HG61 BK59 HB60) | ((with_reducible refine gate_store (t := 29) (p := 8) rfl ?_); refine ev_store rfl rfl rfl (g := g8) rfl (cs := #[.string s1.text, .slice as54_1 s1.hv.length ds54_1, .slice as54_2 s1.dt.length ds54_2]) rfl BK59.out (by kernel_rfl) rfl rfl ?_; intro W62 BK63 HB64; have HB65 := Aside0.mk (below_new HG61.out HB60.out HB64.out); clear BK59 HB60 HB64) | ((with_reducible refine gate_dst (N := 29) rfl ?_); refine ev_load rfl (N := 29) rfl rfl (g := g7) rfl (cs := #[.string s0.text, .slice as40_1 s0.hv.length ds40_1, .slice as40_2 s0.dt.length ds40_2]) (Bk.below BK49.out (below_step HB57.out HB65.out)) hu29 rfl (by kernel_rfl) ?_) | ((with_reducible refine gate_dst (N := 30) rfl ?_); refine ev_load rfl (N := 30) rfl rfl (g := g8) rfl (cs := #[.string s1.text, .slice as54_1 s1.hv.length ds54_1, .slice as54_2 s1.dt.length ds54_2]) BK63.out hu29 rfl (by kernel_rfl) ?_))
  refine (impl_OwnSame_c (OwR.toC (OwR.below HRs40.out (below_step (below_step HB51.out HB57.out) HB65.out))) (OwR.toC (OwR.below HRs54.out HB65.out)) HQ.out).mono ?_
  rintro e W66 ⟨rfl, hb67⟩
  have HB68 := Aside0.mk hb67
  clear hb67
  go_wp2_with (fail)
  refine start_ (n := 5) (S := fun w' => Bk w' g7 #[.string s0.text, .slice as40_1 s0.hv.length ds40_1, .slice as40_2 s0.dt.length ds40_2] 29 ∧ Bk w' g2 #[.string s0.text, .slice A0_1 s0.hv.length c0_1, .slice A0_2 s0.dt.length c0_2] 24) (ds := []) #[false, false, false, false, false] (by kernel_rfl) rfl rfl ⟨(show Bk W66 g7 #[.string s0.text, .slice as40_1 s0.hv.length ds40_1, .slice as40_2 s0.dt.length ds40_2] 29 from (Bk.below BK49.out (below_step (below_step HB57.out HB65.out) HB68.out))), (show Bk W66 g2 #[.string s0.text, .slice A0_1 s0.hv.length c0_1, .slice A0_2 s0.dt.length c0_2] 24 from (Bk.below BK2.out (below_step (below_step (below_step (below_step (below_step (below_step (below_step (below_step (below_step (below_step (below_step HB7.out HB14.out) HB20.out) HB22.out) HB28.out) HB34.out) HB37.out) HB43.out) HB51.out) HB57.out) HB65.out) HB68.out)))⟩ (fun hHeld => ?_)
  clear hHeld
  refine world_at (w := W66) (below_drew0 _) (fun W69 HB70 => ?_)
  refine take_ (i := 0) (N := some 35) (v := .agg #[.string s0.text, .slice as40_1 s0.hv.length ds40_1, .slice as40_2 s0.dt.length ds40_2]) (a' := ?_) #[true, false, false, false, false] rfl rfl (by kernel_rfl) (fun _ _ _ h => h) (Or.inl ⟨by rfl, ?_⟩) ⟨(Bk.below BK49.out (below_step (below_step (below_step HB57.out HB65.out) HB68.out) HB70.out)), (Bk.below BK2.out (below_step (below_step (below_step (below_step (below_step (below_step (below_step (below_step (below_step (below_step (below_step (below_step HB7.out HB14.out) HB20.out) HB22.out) HB28.out) HB34.out) HB37.out) HB43.out) HB51.out) HB57.out) HB65.out) HB68.out) HB70.out))⟩ ?_ ?_
  · rintro w' ⟨s0_, s1_⟩
    exact run_load_ev rfl rfl s0_ hu29 rfl (by kernel_rfl)
  rotate_left
  · simp only [Act.put, List.setIfInBounds_toArray, List.set_cons_zero, List.set_cons_succ, i64_w, i32_w]
    rfl
  refine take_ (i := 1) (N := some 36) (v := .agg #[.string s0.text, .slice A0_1 s0.hv.length c0_1, .slice A0_2 s0.dt.length c0_2]) (a' := ?_) #[true, true, false, false, false] rfl rfl (by kernel_rfl) (fun _ _ _ h => h) (Or.inl ⟨by rfl, ?_⟩) ⟨(Bk.below BK49.out (below_step (below_step (below_step HB57.out HB65.out) HB68.out) HB70.out)), (Bk.below BK2.out (below_step (below_step (below_step (below_step (below_step (below_step (below_step (below_step (below_step (below_step (below_step (below_step HB7.out HB14.out) HB20.out) HB22.out) HB28.out) HB34.out) HB37.out) HB43.out) HB51.out) HB57.out) HB65.out) HB68.out) HB70.out))⟩ ?_ ?_
  · rintro w' ⟨s0_, s1_⟩
    exact run_load_ev rfl rfl s1_ hu24 rfl (by kernel_rfl)
  rotate_left
  · simp only [Act.put, List.setIfInBounds_toArray, List.set_cons_zero, List.set_cons_succ, i64_w, i32_w]
    rfl
  refine one_ (i := 2) (N := some 37) #[true, true, true, false, false] rfl rfl (by kernel_rfl) (by decide) (fun K hK => ?_)
  refine goes_ Try.func15 (by kernel_rfl) rfl #[.agg #[.string s0.text, .slice A0_1 s0.hv.length c0_1, .slice A0_2 s0.dt.length c0_2]] (by rfl) rfl rfl (by (try simp only [List.map_toArray, List.map_cons, List.map_nil]); first | done | rfl) ?_
  refine (toOwn_c (OwL.below HV0.out (below_step (below_step (below_step (below_step (below_step (below_step (below_step (below_step (below_step (below_step (below_step (below_step (below_step HB3.out HB7.out) HB14.out) HB20.out) HB22.out) HB28.out) HB34.out) HB37.out) HB43.out) HB51.out) HB57.out) HB65.out) HB68.out) HB70.out)) HS11.out).mono ?_
  rintro e W74 ⟨u71, rfl, hr72, hb75⟩
  have HB76 := Aside0.mk hb75
  clear hb75
  have HRs73 := Aside0.mk hr72
  obtain ⟨as73_1, ds73_1, as73_2, ds73_2, rfl, _⟩ := hr72.toC
  clear hr72
  refine ⟨_, rfl, ?_⟩
  refine hK.out _ _ ⟨(Bk.below BK49.out (below_step (below_step (below_step (below_step HB57.out HB65.out) HB68.out) HB70.out) HB76.out)), (Bk.below BK2.out (below_step (below_step (below_step (below_step (below_step (below_step (below_step (below_step (below_step (below_step (below_step (below_step (below_step HB7.out HB14.out) HB20.out) HB22.out) HB28.out) HB34.out) HB37.out) HB43.out) HB51.out) HB57.out) HB65.out) HB68.out) HB70.out) HB76.out))⟩ (fun hHeld => ?_)
  clear hHeld hK K
  refine norm_ (a' := ?_) ?_ ?_
  rotate_left
  · show Act.put _ (some 37) _ = _
    simp only [Act.put, List.setIfInBounds_toArray, List.set_cons_zero, List.set_cons_succ, i64_w, i32_w]
    rfl
  refine one_ (i := 3) (N := some 38) #[true, true, true, true, false] rfl rfl (by kernel_rfl) (by decide) (fun K hK => ?_)
  refine goes_ Try.func17 (by kernel_rfl) rfl #[.agg #[.string s0.text, .slice as40_1 s0.hv.length ds40_1, .slice as40_2 s0.dt.length ds40_2], .agg #[.string s0.text, .slice as73_1 s0.hv.length ds73_1, .slice as73_2 s0.dt.length ds73_2]] (by rfl) rfl rfl (by (try simp only [List.map_toArray, List.map_cons, List.map_nil]); first | done | rfl) ?_
  refine (eqOwn_t (OwR.toC (OwR.below HRs40.out (below_step (below_step (below_step (below_step (below_step HB51.out HB57.out) HB65.out) HB68.out) HB70.out) HB76.out))) (OwR.toC HRs73.out)).mono ?_
  rintro e W77 ⟨rfl, hb78⟩
  have HB79 := Aside0.mk hb78
  clear hb78
  refine ⟨_, rfl, ?_⟩
  refine hK.out _ _ ⟨(Bk.below BK49.out (below_step (below_step (below_step (below_step (below_step HB57.out HB65.out) HB68.out) HB70.out) HB76.out) HB79.out)), (Bk.below BK2.out (below_step (below_step (below_step (below_step (below_step (below_step (below_step (below_step (below_step (below_step (below_step (below_step (below_step (below_step HB7.out HB14.out) HB20.out) HB22.out) HB28.out) HB34.out) HB37.out) HB43.out) HB51.out) HB57.out) HB65.out) HB68.out) HB70.out) HB76.out) HB79.out))⟩ (fun hHeld => ?_)
  clear hHeld hK K
  refine norm_ (a' := ?_) ?_ ?_
  rotate_left
  · show Act.put _ (some 38) _ = _
    simp only [Act.put, List.setIfInBounds_toArray, List.set_cons_zero, List.set_cons_succ, i64_w, i32_w]
    rfl
  refine pure_ (i := 4) (N := some 39) (v := ?_) (a' := ?_) #[true, true, true, true, true] rfl rfl (by kernel_rfl) (fun _ _ _ h => h) (Or.inl ⟨by rfl, ?_⟩) ?_ ?_
  rotate_left
  · intro w'
    go_simp
    with_reducible rfl
  rotate_left
  · simp only [Act.put, List.setIfInBounds_toArray, List.set_cons_zero, List.set_cons_succ, i64_w, i32_w]
    rfl
  refine done_ (by kernel_rfl) ?_
  go_wp2_with (fail)
  refine start_ (n := 5) (S := fun w' => Bk w' g8 #[.string s1.text, .slice as54_1 s1.hv.length ds54_1, .slice as54_2 s1.dt.length ds54_2] 29 ∧ Bk w' g3 #[.string s1.text, .slice A1_1 s1.hv.length c1_1, .slice A1_2 s1.dt.length c1_2] 24) (ds := []) #[false, false, false, false, false] (by kernel_rfl) rfl rfl ⟨(show Bk W77 g8 #[.string s1.text, .slice as54_1 s1.hv.length ds54_1, .slice as54_2 s1.dt.length ds54_2] 29 from (Bk.below BK63.out (below_step (below_step (below_step HB68.out HB70.out) HB76.out) HB79.out))), (show Bk W77 g3 #[.string s1.text, .slice A1_1 s1.hv.length c1_1, .slice A1_2 s1.dt.length c1_2] 24 from (Bk.below BK6.out (below_step (below_step (below_step (below_step (below_step (below_step (below_step (below_step (below_step (below_step (below_step (below_step (below_step HB14.out HB20.out) HB22.out) HB28.out) HB34.out) HB37.out) HB43.out) HB51.out) HB57.out) HB65.out) HB68.out) HB70.out) HB76.out) HB79.out)))⟩ (fun hHeld => ?_)
  clear hHeld
  refine world_at (w := W77) (below_drew0 _) (fun W80 HB81 => ?_)
  refine take_ (i := 0) (N := some 40) (v := .agg #[.string s1.text, .slice as54_1 s1.hv.length ds54_1, .slice as54_2 s1.dt.length ds54_2]) (a' := ?_) #[true, false, false, false, false] rfl rfl (by kernel_rfl) (fun _ _ _ h => h) (Or.inl ⟨by rfl, ?_⟩) ⟨(Bk.below BK63.out (below_step (below_step (below_step (below_step HB68.out HB70.out) HB76.out) HB79.out) HB81.out)), (Bk.below BK6.out (below_step (below_step (below_step (below_step (below_step (below_step (below_step (below_step (below_step (below_step (below_step (below_step (below_step (below_step HB14.out HB20.out) HB22.out) HB28.out) HB34.out) HB37.out) HB43.out) HB51.out) HB57.out) HB65.out) HB68.out) HB70.out) HB76.out) HB79.out) HB81.out))⟩ ?_ ?_
  · rintro w' ⟨s0_, s1_⟩
    exact run_load_ev rfl rfl s0_ hu29 rfl (by kernel_rfl)
  rotate_left
  · simp only [Act.put, List.setIfInBounds_toArray, List.set_cons_zero, List.set_cons_succ, i64_w, i32_w]
    rfl
  refine take_ (i := 1) (N := some 41) (v := .agg #[.string s1.text, .slice A1_1 s1.hv.length c1_1, .slice A1_2 s1.dt.length c1_2]) (a' := ?_) #[true, true, false, false, false] rfl rfl (by kernel_rfl) (fun _ _ _ h => h) (Or.inl ⟨by rfl, ?_⟩) ⟨(Bk.below BK63.out (below_step (below_step (below_step (below_step HB68.out HB70.out) HB76.out) HB79.out) HB81.out)), (Bk.below BK6.out (below_step (below_step (below_step (below_step (below_step (below_step (below_step (below_step (below_step (below_step (below_step (below_step (below_step (below_step HB14.out HB20.out) HB22.out) HB28.out) HB34.out) HB37.out) HB43.out) HB51.out) HB57.out) HB65.out) HB68.out) HB70.out) HB76.out) HB79.out) HB81.out))⟩ ?_ ?_
  · rintro w' ⟨s0_, s1_⟩
    exact run_load_ev rfl rfl s1_ hu24 rfl (by kernel_rfl)
  rotate_left
  · simp only [Act.put, List.setIfInBounds_toArray, List.set_cons_zero, List.set_cons_succ, i64_w, i32_w]
    rfl
  refine one_ (i := 2) (N := some 42) #[true, true, true, false, false] rfl rfl (by kernel_rfl) (by decide) (fun K hK => ?_)
  refine goes_ Try.func15 (by kernel_rfl) rfl #[.agg #[.string s1.text, .slice A1_1 s1.hv.length c1_1, .slice A1_2 s1.dt.length c1_2]] (by rfl) rfl rfl (by (try simp only [List.map_toArray, List.map_cons, List.map_nil]); first | done | rfl) ?_
  refine (toOwn_c (OwL.below HV1.out (below_step (below_step (below_step (below_step (below_step (below_step (below_step (below_step (below_step (below_step (below_step (below_step (below_step (below_step (below_step (below_step HB3.out HB7.out) HB14.out) HB20.out) HB22.out) HB28.out) HB34.out) HB37.out) HB43.out) HB51.out) HB57.out) HB65.out) HB68.out) HB70.out) HB76.out) HB79.out) HB81.out)) HS17.out).mono ?_
  rintro e W85 ⟨u82, rfl, hr83, hb86⟩
  have HB87 := Aside0.mk hb86
  clear hb86
  have HRs84 := Aside0.mk hr83
  obtain ⟨as84_1, ds84_1, as84_2, ds84_2, rfl, _⟩ := hr83.toC
  clear hr83
  refine ⟨_, rfl, ?_⟩
  refine hK.out _ _ ⟨(Bk.below BK63.out (below_step (below_step (below_step (below_step (below_step HB68.out HB70.out) HB76.out) HB79.out) HB81.out) HB87.out)), (Bk.below BK6.out (below_step (below_step (below_step (below_step (below_step (below_step (below_step (below_step (below_step (below_step (below_step (below_step (below_step (below_step (below_step HB14.out HB20.out) HB22.out) HB28.out) HB34.out) HB37.out) HB43.out) HB51.out) HB57.out) HB65.out) HB68.out) HB70.out) HB76.out) HB79.out) HB81.out) HB87.out))⟩ (fun hHeld => ?_)
  clear hHeld hK K
  refine norm_ (a' := ?_) ?_ ?_
  rotate_left
  · show Act.put _ (some 42) _ = _
    simp only [Act.put, List.setIfInBounds_toArray, List.set_cons_zero, List.set_cons_succ, i64_w, i32_w]
    rfl
  refine one_ (i := 3) (N := some 43) #[true, true, true, true, false] rfl rfl (by kernel_rfl) (by decide) (fun K hK => ?_)
  refine goes_ Try.func17 (by kernel_rfl) rfl #[.agg #[.string s1.text, .slice as54_1 s1.hv.length ds54_1, .slice as54_2 s1.dt.length ds54_2], .agg #[.string s1.text, .slice as84_1 s1.hv.length ds84_1, .slice as84_2 s1.dt.length ds84_2]] (by rfl) rfl rfl (by (try simp only [List.map_toArray, List.map_cons, List.map_nil]); first | done | rfl) ?_
  refine (eqOwn_t (OwR.toC (OwR.below HRs54.out (below_step (below_step (below_step (below_step (below_step (below_step HB65.out HB68.out) HB70.out) HB76.out) HB79.out) HB81.out) HB87.out))) (OwR.toC HRs84.out)).mono ?_
  rintro e W88 ⟨rfl, hb89⟩
  have HB90 := Aside0.mk hb89
  clear hb89
  refine ⟨_, rfl, ?_⟩
  refine hK.out _ _ ⟨(Bk.below BK63.out (below_step (below_step (below_step (below_step (below_step (below_step HB68.out HB70.out) HB76.out) HB79.out) HB81.out) HB87.out) HB90.out)), (Bk.below BK6.out (below_step (below_step (below_step (below_step (below_step (below_step (below_step (below_step (below_step (below_step (below_step (below_step (below_step (below_step (below_step (below_step HB14.out HB20.out) HB22.out) HB28.out) HB34.out) HB37.out) HB43.out) HB51.out) HB57.out) HB65.out) HB68.out) HB70.out) HB76.out) HB79.out) HB81.out) HB87.out) HB90.out))⟩ (fun hHeld => ?_)
  clear hHeld hK K
  refine norm_ (a' := ?_) ?_ ?_
  rotate_left
  · show Act.put _ (some 43) _ = _
    simp only [Act.put, List.setIfInBounds_toArray, List.set_cons_zero, List.set_cons_succ, i64_w, i32_w]
    rfl
  refine pure_ (i := 4) (N := some 44) (v := ?_) (a' := ?_) #[true, true, true, true, true] rfl rfl (by kernel_rfl) (fun _ _ _ h => h) (Or.inl ⟨by rfl, ?_⟩) ?_ ?_
  rotate_left
  · intro w'
    go_simp
    with_reducible rfl
  rotate_left
  · simp only [Act.put, List.setIfInBounds_toArray, List.set_cons_zero, List.set_cons_succ, i64_w, i32_w]
    rfl
  refine done_ (by kernel_rfl) ?_
  go_wp2_with (fail)
  go_ret
  exact ⟨rfl, (below_step (below_step (below_step (below_step (below_step (below_step (below_step (below_step (below_step (below_step (below_step (below_step (below_step (below_step (below_step (below_step (below_step (below_step HB3.out HB7.out) HB14.out) HB20.out) HB22.out) HB28.out) HB34.out) HB37.out) HB43.out) HB51.out) HB57.out) HB65.out) HB68.out) HB70.out) HB76.out) HB79.out) HB81.out) HB87.out) HB90.out)⟩
end Go.Proofs.Ythionnhbnfblcaa.P

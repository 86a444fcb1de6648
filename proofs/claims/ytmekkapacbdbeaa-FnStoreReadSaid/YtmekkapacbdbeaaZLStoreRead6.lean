/- Part 6 of the proof of FnStoreRead: words, contracts of callees, plain lemmas. -/
import Derived.Test.YtmekkapacbdbeaaZLStoreRead5
namespace Go.Proofs.Ytmekkapacbdbeaa.P
open Go.RowKit Go.Proofs.YtmekkapacbdbeaaW.PrintWords Go.Proofs.YtmekkapacbdbeaaW.PrintLast Go.Proofs.YtmekkapacbdbeaaW.PrintMore
attribute [local go_sem] max2_int min2_int max_two min_two max_three min_three max_four min_four   
set_option linter.unusedVariables false
set_option linter.unusedSimpArgs false
def spec_StoreRead.f (k : Nat) (l0_0 : List ByteArray) (l0_1 : List ByteArray) (l0_2 : List Int) (l0_3 : List Int) (l0_4 : List Int) (a1 : Int) (a2_0 : Int) (a2_1 : Int) : Option (ByteArray × Bool) := (spec_StoreOk.f k l0_0 l0_1 l0_2 l0_3 l0_4).bind fun t1114 => (if t1114 = true then (if a1 < 0 then (some ((⟨#[]⟩ : ByteArray), false)) else (if a1 ≥ 3 then (some ((⟨#[]⟩ : ByteArray), false)) else ((spec_SpanOk.f a2_0 a2_1).bind fun t1115 => (if t1115 = true then (if 0 ≤ a1 then (if a1 < (l0_0.length : Int) then ((spec_l2Read.f (rdOf ByteArray.empty l0_0 a1) a2_0 a2_1).bind fun t1117 => (some (t1117, true))) else (none)) else (none)) else (some ((⟨#[]⟩ : ByteArray), false)))))) else (some ((⟨#[]⟩ : ByteArray), false)))
def spec_StoreRead.T3 : Bool × List (List Nat × List Nat) := (true, [([], []), ([0], [0]), ([], []), ([1, 2], [1, 2]), ([3], [3]), ([], []), ([4, 5], [4, 5]), ([6, 6, 0, 1, 2, 3, 4, 5, 6], [6]), ([7, 0, 1, 2, 3, 4, 5, 6, 7], [])])
def spec_StoreRead.B3 : List Nat := [0, 1, 0, 7, 15, 0, 63, 127, 255]
theorem spec_StoreRead.tab3 : rtab .any (opsOf Try.f31 3) = spec_StoreRead.T3 := by kernel_rfl
theorem spec_StoreRead.bits3 : waitsOk spec_StoreRead.T3.2 spec_StoreRead.B3 = true := by kernel_rfl
set_option maxHeartbeats 8000000 in
set_option maxRecDepth 100000 in
theorem spec_StoreRead.calls (k : Nat) (A0_0 : Option Addr) (c0_0 : Nat) (l0_0 : List ByteArray) (A0_1 : Option Addr) (c0_1 : Nat) (l0_1 : List ByteArray) (A0_2 : Option Addr) (c0_2 : Nat) (l0_2 : List Int) (A0_3 : Option Addr) (c0_3 : Nat) (l0_3 : List Int) (A0_4 : Option Addr) (c0_4 : Nat) (l0_4 : List Int) (a1 : Int) (a2_0 : Int) (a2_1 : Int) (r1 : ByteArray) (r2 : Bool) (w : World) (hr0_0 : Kd.C Kd.string w A0_0 l0_0.length l0_0) (hc0_0 : l0_0.length ≤ c0_0) (hr0_1 : Kd.C Kd.string w A0_1 l0_1.length l0_1) (hc0_1 : l0_1.length ≤ c0_1) (hr0_2 : Kd.C (Kd.int .i64) w A0_2 l0_2.length l0_2) (hc0_2 : l0_2.length ≤ c0_2) (hr0_3 : Kd.C (Kd.int .i64) w A0_3 l0_3.length l0_3) (hc0_3 : l0_3.length ≤ c0_3) (hr0_4 : Kd.C (Kd.int .i64) w A0_4 l0_4.length l0_4) (hc0_4 : l0_4.length ≤ c0_4) (h : spec_StoreRead.f k l0_0 l0_1 l0_2 l0_3 l0_4 a1 a2_0 a2_1 = some (r1, r2)) :
  Calls Try.prog 31 #[.agg #[.slice A0_0 l0_0.length c0_0, .slice A0_1 l0_1.length c0_1, .slice A0_2 l0_2.length c0_2, .slice A0_3 l0_3.length c0_3, .slice A0_4 l0_4.length c0_4], .int .i64 a1, .agg #[.int .i64 a2_0, .int .i64 a2_1]] w fun e w' => e = .returned (.tuple #[.string r1, .bool r2]) ∧ Below w.heap.size w w' := by
 have hu26 := Try.underlying26
 have hu42 := Try.underlying42
 have HR0_0 := Ak hr0_0
 have HC0_0 := Ak hc0_0
 clear hr0_0 hc0_0
 have HR0_1 := Ak hr0_1
 have HC0_1 := Ak hc0_1
 clear hr0_1 hc0_1
 have HR0_2 := Ak hr0_2
 have HC0_2 := Ak hc0_2
 clear hr0_2 hc0_2
 have HR0_3 := Ak hr0_3
 have HC0_3 := Ak hc0_3
 clear hr0_3 hc0_3
 have HR0_4 := Ak hr0_4
 have HC0_4 := Ak hc0_4
 clear hr0_4 hc0_4
 have HB := Ak (Below.refl w.heap.size w)
 have H : ((spec_StoreOk.f k l0_0 l0_1 l0_2 l0_3 l0_4).bind fun t1114 => (if t1114 = true then (if a1 < 0 then (some ((⟨#[]⟩ : ByteArray), false)) else (if a1 ≥ 3 then (some ((⟨#[]⟩ : ByteArray), false)) else ((spec_SpanOk.f a2_0 a2_1).bind fun t1115 => (if t1115 = true then (if 0 ≤ a1 then (if a1 < (l0_0.length : Int) then ((spec_l2Read.f (rdOf ByteArray.empty l0_0 a1) a2_0 a2_1).bind fun t1117 => (some (t1117, true))) else (none)) else (none)) else (some ((⟨#[]⟩ : ByteArray), false)))))) else (some ((⟨#[]⟩ : ByteArray), false)))) = some (r1, r2) := h
 clear h
 replace H := Option.bind_eq_some_iff.mp H
 obtain ⟨t1114, A40, H⟩ := H
 replace H : (if t1114 = true then (if a1 < 0 then (some ((⟨#[]⟩ : ByteArray), false)) else (if a1 ≥ 3 then (some ((⟨#[]⟩ : ByteArray), false)) else ((spec_SpanOk.f a2_0 a2_1).bind fun t1115 => (if t1115 = true then (if 0 ≤ a1 then (if a1 < (l0_0.length : Int) then ((spec_l2Read.f (rdOf ByteArray.empty l0_0 a1) a2_0 a2_1).bind fun t1117 => (some (t1117, true))) else (none)) else (none)) else (some ((⟨#[]⟩ : ByteArray), false)))))) else (some ((⟨#[]⟩ : ByteArray), false))) = some (r1, r2) := H
 have A4 := Ak A40
 clear A40
 by_cases c5 : t1114 = true
 ·subst c5
  have H1 : (if a1 < 0 then (some ((⟨#[]⟩ : ByteArray), false)) else (if a1 ≥ 3 then (some ((⟨#[]⟩ : ByteArray), false)) else ((spec_SpanOk.f a2_0 a2_1).bind fun t1115 => (if t1115 = true then (if 0 ≤ a1 then (if a1 < (l0_0.length : Int) then ((spec_l2Read.f (rdOf ByteArray.empty l0_0 a1) a2_0 a2_1).bind fun t1117 => (some (t1117, true))) else (none)) else (none)) else (some ((⟨#[]⟩ : ByteArray), false)))))) = some (r1, r2) := by rw [if_pos rfl] at H; exact H
  clear H
  have H := H1
  clear H1
  by_cases c6 : a1 < 0
  ·rw [if_pos c6] at H
   have c6b0 : decide (a1 < 0) = true := decide_eq_true c6
   clear c6
   simp only [Option.some.injEq, Prod.mk.injEq] at H
   obtain ⟨rfl, rfl⟩ := H
   go_enter Try.func31, Try.ntmps31
   go_wp2_with (first | ((with_reducible refine gate_dst (N := 3) rfl ?_); refine box_event ?hg (N := 3) ?hd (cs := #[.slice A0_0 l0_0.length c0_0, .slice A0_1 l0_1.length c0_1, .slice A0_2 l0_2.length c0_2, .slice A0_3 l0_3.length c0_3, .slice A0_4 l0_4.length c0_4]) (t := 26) ?hr ?_; (case hd => rfl); (case hg => rfl); (case hr => first | (go_simp; done) | (go_simp; rfl)); intro gb1112 hg w7 hbox hb; have n0_ := Ak (below_step (by repeat (first | (with_reducible first | exact HB.out | apply below_alloc | apply pw_below_drewN | apply below_drew1) | exact HB.out)) hb); have n1_ := Ak (hbox); have n2_ := Ak ((by rw [hg]; exact (below_size (by repeat (first | (with_reducible first | exact HB.out | apply below_alloc | apply pw_below_drewN | apply below_drew1) | exact HB.out))) : w.heap.size ≤ gb1112)); have n3_ := Ak ((by rw [hg]; exact (below_size (by repeat (first | (with_reducible first | exact HB.out | apply below_alloc | apply pw_below_drewN | apply below_drew1) | exact HB.out))) : w.heap.size ≤ gb1112)); clear HB; have HB := n0_; have BK1112 := n1_; have GW1112 := n2_; have GE1112 := n3_; clear n0_ n1_ n2_ n3_; clear hb hbox hg) | ((with_reducible refine gate_dst (N := 5) rfl ?_); refine box_event ?hg (N := 5) ?hd (cs := #[.int .i64 a2_0, .int .i64 a2_1]) (t := 42) ?hr ?_; (case hd => rfl); (case hg => rfl); (case hr => first | (go_simp; done) | (go_simp; rfl)); intro gb1113 hg w8 hbox hb; have n0_ := Ak (blk_below (g := gb1112) (o := .cells #[.slice A0_0 l0_0.length c0_0, .slice A0_1 l0_1.length c0_1, .slice A0_2 l0_2.length c0_2, .slice A0_3 l0_3.length c0_3, .slice A0_4 l0_4.length c0_4] 26 (0, 0)) (by (with_reducible repeat (first | refine blk_drewN ?_ _ | refine blk_drew ?_ | refine blk_alloc ?_ _)); exact BK1112.out) hb); have n1_ := Ak (below_step (by repeat (first | (with_reducible first | exact HB.out | apply below_alloc | apply pw_below_drewN | apply below_drew1 | refine below_set ?_ GE1112.out) | exact HB.out)) hb); have n2_ := Ak (hbox); have n3_ := Ak ((by rw [hg]; exact (below_size (by repeat (first | (with_reducible first | exact HB.out | apply below_alloc | apply pw_below_drewN | apply below_drew1 | refine below_set ?_ GE1112.out) | exact HB.out))) : w.heap.size ≤ gb1113)); have n4_ := Ak ((by rw [hg]; exact (below_size (by repeat (first | (with_reducible first | exact HB.out | apply below_alloc | apply pw_below_drewN | apply below_drew1 | refine below_set ?_ GE1112.out) | exact HB.out))) : w.heap.size ≤ gb1113)); have n5_ := Ak ((by rw [hg]; exact Nat.ne_of_lt (blk_lt (g := gb1112) (o := .cells #[.slice A0_0 l0_0.length c0_0, .slice A0_1 l0_1.length c0_1, .slice A0_2 l0_2.length c0_2, .slice A0_3 l0_3.length c0_3, .slice A0_4 l0_4.length c0_4] 26 (0, 0)) (by (with_reducible repeat (first | refine blk_drewN ?_ _ | refine blk_drew ?_ | refine blk_alloc ?_ _)); exact BK1112.out)) : gb1112 ≠ gb1113)); have n6_ := Ak ((by rw [hg]; exact Nat.ne_of_gt (blk_lt (g := gb1112) (o := .cells #[.slice A0_0 l0_0.length c0_0, .slice A0_1 l0_1.length c0_1, .slice A0_2 l0_2.length c0_2, .slice A0_3 l0_3.length c0_3, .slice A0_4 l0_4.length c0_4] 26 (0, 0)) (by (with_reducible repeat (first | refine blk_drewN ?_ _ | refine blk_drew ?_ | refine blk_alloc ?_ _)); exact BK1112.out)) : gb1113 ≠ gb1112)); clear BK1112; clear HB; have BK1112 := n0_; have HB := n1_; have BK1113 := n2_; have GW1113 := n3_; have GE1113 := n4_; have NB1112_1113 := n5_; have NB1113_1112 := n6_; clear n0_ n1_ n2_ n3_ n4_ n5_ n6_; clear hb hbox hg; have hnb9 := NB1112_1113.out; have hnc9 := NB1113_1112.out; have hcz10_0 : w8.cell? ⟨gb1112, 0, none⟩ = some (.slice A0_0 l0_0.length c0_0) := (blk_cell BK1112.out 0).trans rfl; have hcz10_1 : w8.cell? ⟨gb1112, 1, none⟩ = some (.slice A0_1 l0_1.length c0_1) := (blk_cell BK1112.out 1).trans rfl; have hcz10_2 : w8.cell? ⟨gb1112, 2, none⟩ = some (.slice A0_2 l0_2.length c0_2) := (blk_cell BK1112.out 2).trans rfl; have hcz10_3 : w8.cell? ⟨gb1112, 3, none⟩ = some (.slice A0_3 l0_3.length c0_3) := (blk_cell BK1112.out 3).trans rfl; have hcz10_4 : w8.cell? ⟨gb1112, 4, none⟩ = some (.slice A0_4 l0_4.length c0_4) := (blk_cell BK1112.out 4).trans rfl; have hfz10_0 := blk_frozen BK1112.out 0; have hfz10_1 := blk_frozen BK1112.out 1; have hfz10_2 := blk_frozen BK1112.out 2; have hfz10_3 := blk_frozen BK1112.out 3; have hfz10_4 := blk_frozen BK1112.out 4) | ((with_reducible refine gate_callee (f := 19) rfl ?_); refine goesL_ (some 9) rfl rfl Try.func19 (by kernel_rfl) rfl #[.agg #[.slice A0_0 l0_0.length c0_0, .slice A0_1 l0_1.length c0_1, .slice A0_2 l0_2.length c0_2, .slice A0_3 l0_3.length c0_3, .slice A0_4 l0_4.length c0_4]] rfl (by (try simp only [List.map_toArray, List.map_cons, List.map_nil]); first | done | rfl | (simp only [List.length_drop, List.length_take]; rfl)) ?_; (with_reducible refine (spec_StoreOk.calls k _ _ l0_0 _ _ l0_1 _ _ l0_2 _ _ l0_3 _ _ l0_4 true _ ?side1 ?side2 ?side3 ?side4 ?side5 ?side6 ?side7 ?side8 ?side9 ?side10 A4.out).mono ?_); (case side1 => repeat (first | exact (Kd.C_below HR0_0.out HB.out) | (with_reducible refine Kd.C_alloc ?_ _) | (with_reducible refine Kd.C_drewN ?_ _) | (with_reducible refine Kd.C_drew ?_))); (case side2 => exact HC0_0.out); (case side3 => repeat (first | exact (Kd.C_below HR0_1.out HB.out) | (with_reducible refine Kd.C_alloc ?_ _) | (with_reducible refine Kd.C_drewN ?_ _) | (with_reducible refine Kd.C_drew ?_))); (case side4 => exact HC0_1.out); (case side5 => repeat (first | exact (Kd.C_below HR0_2.out HB.out) | (with_reducible refine Kd.C_alloc ?_ _) | (with_reducible refine Kd.C_drewN ?_ _) | (with_reducible refine Kd.C_drew ?_))); (case side6 => exact HC0_2.out); (case side7 => repeat (first | exact (Kd.C_below HR0_3.out HB.out) | (with_reducible refine Kd.C_alloc ?_ _) | (with_reducible refine Kd.C_drewN ?_ _) | (with_reducible refine Kd.C_drew ?_))); (case side8 => exact HC0_3.out); (case side9 => repeat (first | exact (Kd.C_below HR0_4.out HB.out) | (with_reducible refine Kd.C_alloc ?_ _) | (with_reducible refine Kd.C_drewN ?_ _) | (with_reducible refine Kd.C_drew ?_))); (case side10 => exact HC0_4.out); rintro e w11 ⟨rfl, hb⟩; refine ⟨_, rfl, ?_⟩; have n0_ := Ak (blk_below (g := gb1112) (o := .cells #[.slice A0_0 l0_0.length c0_0, .slice A0_1 l0_1.length c0_1, .slice A0_2 l0_2.length c0_2, .slice A0_3 l0_3.length c0_3, .slice A0_4 l0_4.length c0_4] 26 (0, 0)) (by (with_reducible repeat (first | refine blk_drewN ?_ _ | refine blk_drew ?_ | refine blk_alloc ?_ _)); exact BK1112.out) hb); have n1_ := Ak (blk_below (g := gb1113) (o := .cells #[.int .i64 a2_0, .int .i64 a2_1] 42 (0, 0)) (by (with_reducible repeat (first | refine blk_drewN ?_ _ | refine blk_drew ?_ | refine blk_alloc ?_ _)); exact BK1113.out) hb); have n2_ := Ak (below_step (by repeat (first | (with_reducible first | exact HB.out | apply below_alloc | apply pw_below_drewN | apply below_drew1 | refine below_set ?_ GE1112.out | refine below_set ?_ GE1113.out) | exact HB.out)) hb); clear BK1112; clear BK1113; clear HB; have BK1112 := n0_; have BK1113 := n1_; have HB := n2_; clear n0_ n1_ n2_; (try clear hb); (try clear hb2); (try clear hk); (try clear hi)))
   go_ret2
   exact ⟨by first | rfl | (simp [errW_none, errW_some] <;> rfl) | (simp [*, errW_none, errW_some] <;> rfl), by repeat (first | (with_reducible first | exact HB.out | apply below_alloc | apply pw_below_drewN | apply below_drew1 | refine below_set ?_ GE1112.out | refine below_set ?_ GE1113.out) | exact HB.out)⟩
  ·rw [if_neg c6] at H
   have c6b0 : decide (a1 < 0) = false := decide_eq_false c6
   clear c6
   by_cases c12 : a1 ≥ 3
   ·rw [if_pos c12] at H
    have c12b0 : decide (3 ≤ a1) = true := decide_eq_true c12
    clear c12
    simp only [Option.some.injEq, Prod.mk.injEq] at H
    obtain ⟨rfl, rfl⟩ := H
    go_enter Try.func31, Try.ntmps31
    go_wp2_with (first | ((with_reducible refine gate_dst (N := 3) rfl ?_); refine box_event ?hg (N := 3) ?hd (cs := #[.slice A0_0 l0_0.length c0_0, .slice A0_1 l0_1.length c0_1, .slice A0_2 l0_2.length c0_2, .slice A0_3 l0_3.length c0_3, .slice A0_4 l0_4.length c0_4]) (t := 26) ?hr ?_; (case hd => rfl); (case hg => rfl); (case hr => first | (go_simp; done) | (go_simp; rfl)); intro gb1112 hg w13 hbox hb; have n0_ := Ak (below_step (by repeat (first | (with_reducible first | exact HB.out | apply below_alloc | apply pw_below_drewN | apply below_drew1) | exact HB.out)) hb); have n1_ := Ak (hbox); have n2_ := Ak ((by rw [hg]; exact (below_size (by repeat (first | (with_reducible first | exact HB.out | apply below_alloc | apply pw_below_drewN | apply below_drew1) | exact HB.out))) : w.heap.size ≤ gb1112)); have n3_ := Ak ((by rw [hg]; exact (below_size (by repeat (first | (with_reducible first | exact HB.out | apply below_alloc | apply pw_below_drewN | apply below_drew1) | exact HB.out))) : w.heap.size ≤ gb1112)); clear HB; have HB := n0_; have BK1112 := n1_; have GW1112 := n2_; have GE1112 := n3_; clear n0_ n1_ n2_ n3_; clear hb hbox hg) | ((with_reducible refine gate_dst (N := 5) rfl ?_); refine box_event ?hg (N := 5) ?hd (cs := #[.int .i64 a2_0, .int .i64 a2_1]) (t := 42) ?hr ?_; (case hd => rfl); (case hg => rfl); (case hr => first | (go_simp; done) | (go_simp; rfl)); intro gb1113 hg w14 hbox hb; have n0_ := Ak (blk_below (g := gb1112) (o := .cells #[.slice A0_0 l0_0.length c0_0, .slice A0_1 l0_1.length c0_1, .slice A0_2 l0_2.length c0_2, .slice A0_3 l0_3.length c0_3, .slice A0_4 l0_4.length c0_4] 26 (0, 0)) (by (with_reducible repeat (first | refine blk_drewN ?_ _ | refine blk_drew ?_ | refine blk_alloc ?_ _)); exact BK1112.out) hb); have n1_ := Ak (below_step (by repeat (first | (with_reducible first | exact HB.out | apply below_alloc | apply pw_below_drewN | apply below_drew1 | refine below_set ?_ GE1112.out) | exact HB.out)) hb); have n2_ := Ak (hbox); have n3_ := Ak ((by rw [hg]; exact (below_size (by repeat (first | (with_reducible first | exact HB.out | apply below_alloc | apply pw_below_drewN | apply below_drew1 | refine below_set ?_ GE1112.out) | exact HB.out))) : w.heap.size ≤ gb1113)); have n4_ := Ak ((by rw [hg]; exact (below_size (by repeat (first | (with_reducible first | exact HB.out | apply below_alloc | apply pw_below_drewN | apply below_drew1 | refine below_set ?_ GE1112.out) | exact HB.out))) : w.heap.size ≤ gb1113)); have n5_ := Ak ((by rw [hg]; exact Nat.ne_of_lt (blk_lt (g := gb1112) (o := .cells #[.slice A0_0 l0_0.length c0_0, .slice A0_1 l0_1.length c0_1, .slice A0_2 l0_2.length c0_2, .slice A0_3 l0_3.length c0_3, .slice A0_4 l0_4.length c0_4] 26 (0, 0)) (by (with_reducible repeat (first | refine blk_drewN ?_ _ | refine blk_drew ?_ | refine blk_alloc ?_ _)); exact BK1112.out)) : gb1112 ≠ gb1113)); have n6_ := Ak ((by rw [hg]; exact Nat.ne_of_gt (blk_lt (g := gb1112) (o := .cells #[.slice A0_0 l0_0.length c0_0, .slice A0_1 l0_1.length c0_1, .slice A0_2 l0_2.length c0_2, .slice A0_3 l0_3.length c0_3, .slice A0_4 l0_4.length c0_4] 26 (0, 0)) (by (with_reducible repeat (first | refine blk_drewN ?_ _ | refine blk_drew ?_ | refine blk_alloc ?_ _)); exact BK1112.out)) : gb1113 ≠ gb1112)); clear BK1112; clear HB; have BK1112 := n0_; have HB := n1_; have BK1113 := n2_; have GW1113 := n3_; have GE1113 := n4_; have NB1112_1113 := n5_; have NB1113_1112 := n6_; clear n0_ n1_ n2_ n3_ n4_ n5_ n6_; clear hb hbox hg; have hnb15 := NB1112_1113.out; have hnc15 := NB1113_1112.out; have hcz16_0 : w14.cell? ⟨gb1112, 0, none⟩ = some (.slice A0_0 l0_0.length c0_0) := (blk_cell BK1112.out 0).trans rfl; have hcz16_1 : w14.cell? ⟨gb1112, 1, none⟩ = some (.slice A0_1 l0_1.length c0_1) := (blk_cell BK1112.out 1).trans rfl; have hcz16_2 : w14.cell? ⟨gb1112, 2, none⟩ = some (.slice A0_2 l0_2.length c0_2) := (blk_cell BK1112.out 2).trans rfl; have hcz16_3 : w14.cell? ⟨gb1112, 3, none⟩ = some (.slice A0_3 l0_3.length c0_3) := (blk_cell BK1112.out 3).trans rfl; have hcz16_4 : w14.cell? ⟨gb1112, 4, none⟩ = some (.slice A0_4 l0_4.length c0_4) := (blk_cell BK1112.out 4).trans rfl; have hfz16_0 := blk_frozen BK1112.out 0; have hfz16_1 := blk_frozen BK1112.out 1; have hfz16_2 := blk_frozen BK1112.out 2; have hfz16_3 := blk_frozen BK1112.out 3; have hfz16_4 := blk_frozen BK1112.out 4) | ((with_reducible refine gate_callee (f := 19) rfl ?_); refine goesL_ (some 9) rfl rfl Try.func19 (by kernel_rfl) rfl #[.agg #[.slice A0_0 l0_0.length c0_0, .slice A0_1 l0_1.length c0_1, .slice A0_2 l0_2.length c0_2, .slice A0_3 l0_3.length c0_3, .slice A0_4 l0_4.length c0_4]] rfl (by (try simp only [List.map_toArray, List.map_cons, List.map_nil]); first | done | rfl | (simp only [List.length_drop, List.length_take]; rfl)) ?_; (with_reducible refine (spec_StoreOk.calls k _ _ l0_0 _ _ l0_1 _ _ l0_2 _ _ l0_3 _ _ l0_4 true _ ?side1 ?side2 ?side3 ?side4 ?side5 ?side6 ?side7 ?side8 ?side9 ?side10 A4.out).mono ?_); (case side1 => repeat (first | exact (Kd.C_below HR0_0.out HB.out) | (with_reducible refine Kd.C_alloc ?_ _) | (with_reducible refine Kd.C_drewN ?_ _) | (with_reducible refine Kd.C_drew ?_))); (case side2 => exact HC0_0.out); (case side3 => repeat (first | exact (Kd.C_below HR0_1.out HB.out) | (with_reducible refine Kd.C_alloc ?_ _) | (with_reducible refine Kd.C_drewN ?_ _) | (with_reducible refine Kd.C_drew ?_))); (case side4 => exact HC0_1.out); (case side5 => repeat (first | exact (Kd.C_below HR0_2.out HB.out) | (with_reducible refine Kd.C_alloc ?_ _) | (with_reducible refine Kd.C_drewN ?_ _) | (with_reducible refine Kd.C_drew ?_))); (case side6 => exact HC0_2.out); (case side7 => repeat (first | exact (Kd.C_below HR0_3.out HB.out) | (with_reducible refine Kd.C_alloc ?_ _) | (with_reducible refine Kd.C_drewN ?_ _) | (with_reducible refine Kd.C_drew ?_))); (case side8 => exact HC0_3.out); (case side9 => repeat (first | exact (Kd.C_below HR0_4.out HB.out) | (with_reducible refine Kd.C_alloc ?_ _) | (with_reducible refine Kd.C_drewN ?_ _) | (with_reducible refine Kd.C_drew ?_))); (case side10 => exact HC0_4.out); rintro e w17 ⟨rfl, hb⟩; refine ⟨_, rfl, ?_⟩; have n0_ := Ak (blk_below (g := gb1112) (o := .cells #[.slice A0_0 l0_0.length c0_0, .slice A0_1 l0_1.length c0_1, .slice A0_2 l0_2.length c0_2, .slice A0_3 l0_3.length c0_3, .slice A0_4 l0_4.length c0_4] 26 (0, 0)) (by (with_reducible repeat (first | refine blk_drewN ?_ _ | refine blk_drew ?_ | refine blk_alloc ?_ _)); exact BK1112.out) hb); have n1_ := Ak (blk_below (g := gb1113) (o := .cells #[.int .i64 a2_0, .int .i64 a2_1] 42 (0, 0)) (by (with_reducible repeat (first | refine blk_drewN ?_ _ | refine blk_drew ?_ | refine blk_alloc ?_ _)); exact BK1113.out) hb); have n2_ := Ak (below_step (by repeat (first | (with_reducible first | exact HB.out | apply below_alloc | apply pw_below_drewN | apply below_drew1 | refine below_set ?_ GE1112.out | refine below_set ?_ GE1113.out) | exact HB.out)) hb); clear BK1112; clear BK1113; clear HB; have BK1112 := n0_; have BK1113 := n1_; have HB := n2_; clear n0_ n1_ n2_; (try clear hb); (try clear hb2); (try clear hk); (try clear hi)))
    go_ret2
    exact ⟨by first | rfl | (simp [errW_none, errW_some] <;> rfl) | (simp [*, errW_none, errW_some] <;> rfl), by repeat (first | (with_reducible first | exact HB.out | apply below_alloc | apply pw_below_drewN | apply below_drew1 | refine below_set ?_ GE1112.out | refine below_set ?_ GE1113.out) | exact HB.out)⟩
   ·rw [if_neg c12] at H
    have c12b0 : decide (3 ≤ a1) = false := decide_eq_false c12
    clear c12
    replace H := Option.bind_eq_some_iff.mp H
    obtain ⟨t1115, A180, H⟩ := H
    replace H : (if t1115 = true then (if 0 ≤ a1 then (if a1 < (l0_0.length : Int) then ((spec_l2Read.f (rdOf ByteArray.empty l0_0 a1) a2_0 a2_1).bind fun t1117 => (some (t1117, true))) else (none)) else (none)) else (some ((⟨#[]⟩ : ByteArray), false))) = some (r1, r2) := H
    have A18 := Ak A180
    clear A180
    by_cases c19 : t1115 = true
    ·subst c19
     have H1 : (if 0 ≤ a1 then (if a1 < (l0_0.length : Int) then ((spec_l2Read.f (rdOf ByteArray.empty l0_0 a1) a2_0 a2_1).bind fun t1117 => (some (t1117, true))) else (none)) else (none)) = some (r1, r2) := by rw [if_pos rfl] at H; exact H
     clear H
     have H := H1
     clear H1
     by_cases c20 : 0 ≤ a1
     ·rw [if_pos c20] at H
      have c20b0 : decide (0 ≤ a1) = true := decide_eq_true c20
      clear c20
      by_cases c21 : a1 < (l0_0.length : Int)
      ·rw [if_pos c21] at H
       have c21b0 : decide (a1 < (l0_0.length : Int)) = true := decide_eq_true c21
       clear c21
       replace H := Option.bind_eq_some_iff.mp H
       obtain ⟨t1117, A220, H⟩ := H
       replace H : (some (t1117, true)) = some (r1, r2) := H
       have A22 := Ak A220
       clear A220
       simp only [Option.some.injEq, Prod.mk.injEq] at H
       obtain ⟨rfl, rfl⟩ := H
       go_enter Try.func31, Try.ntmps31
       try go_wp2_with (first | ((with_reducible refine gate_dst (N := 3) rfl ?_); refine box_event ?hg (N := 3) ?hd (cs := #[.slice A0_0 l0_0.length c0_0, .slice A0_1 l0_1.length c0_1, .slice A0_2 l0_2.length c0_2, .slice A0_3 l0_3.length c0_3, .slice A0_4 l0_4.length c0_4]) (t := 26) ?hr ?_; (case hd => rfl); (case hg => rfl); (case hr => first | (go_simp; done) | (go_simp; rfl)); intro gb1112 hg w23 hbox hb; have n0_ := Ak (below_step (by repeat (first | (with_reducible first | exact HB.out | apply below_alloc | apply pw_below_drewN | apply below_drew1) | exact HB.out)) hb); have n1_ := Ak (hbox); have n2_ := Ak ((by rw [hg]; exact (below_size (by repeat (first | (with_reducible first | exact HB.out | apply below_alloc | apply pw_below_drewN | apply below_drew1) | exact HB.out))) : w.heap.size ≤ gb1112)); have n3_ := Ak ((by rw [hg]; exact (below_size (by repeat (first | (with_reducible first | exact HB.out | apply below_alloc | apply pw_below_drewN | apply below_drew1) | exact HB.out))) : w.heap.size ≤ gb1112)); clear HB; have HB := n0_; have BK1112 := n1_; have GW1112 := n2_; have GE1112 := n3_; clear n0_ n1_ n2_ n3_; clear hb hbox hg) | ((with_reducible refine gate_dst (N := 5) rfl ?_); refine box_event ?hg (N := 5) ?hd (cs := #[.int .i64 a2_0, .int .i64 a2_1]) (t := 42) ?hr ?_; (case hd => rfl); (case hg => rfl); (case hr => first | (go_simp; done) | (go_simp; rfl)); intro gb1113 hg w24 hbox hb; have n0_ := Ak (blk_below (g := gb1112) (o := .cells #[.slice A0_0 l0_0.length c0_0, .slice A0_1 l0_1.length c0_1, .slice A0_2 l0_2.length c0_2, .slice A0_3 l0_3.length c0_3, .slice A0_4 l0_4.length c0_4] 26 (0, 0)) (by (with_reducible repeat (first | refine blk_drewN ?_ _ | refine blk_drew ?_ | refine blk_alloc ?_ _)); exact BK1112.out) hb); have n1_ := Ak (below_step (by repeat (first | (with_reducible first | exact HB.out | apply below_alloc | apply pw_below_drewN | apply below_drew1 | refine below_set ?_ GE1112.out) | exact HB.out)) hb); have n2_ := Ak (hbox); have n3_ := Ak ((by rw [hg]; exact (below_size (by repeat (first | (with_reducible first | exact HB.out | apply below_alloc | apply pw_below_drewN | apply below_drew1 | refine below_set ?_ GE1112.out) | exact HB.out))) : w.heap.size ≤ gb1113)); have n4_ := Ak ((by rw [hg]; exact (below_size (by repeat (first | (with_reducible first | exact HB.out | apply below_alloc | apply pw_below_drewN | apply below_drew1 | refine below_set ?_ GE1112.out) | exact HB.out))) : w.heap.size ≤ gb1113)); have n5_ := Ak ((by rw [hg]; exact Nat.ne_of_lt (blk_lt (g := gb1112) (o := .cells #[.slice A0_0 l0_0.length c0_0, .slice A0_1 l0_1.length c0_1, .slice A0_2 l0_2.length c0_2, .slice A0_3 l0_3.length c0_3, .slice A0_4 l0_4.length c0_4] 26 (0, 0)) (by (with_reducible repeat (first | refine blk_drewN ?_ _ | refine blk_drew ?_ | refine blk_alloc ?_ _)); exact BK1112.out)) : gb1112 ≠ gb1113)); have n6_ := Ak ((by rw [hg]; exact Nat.ne_of_gt (blk_lt (g := gb1112) (o := .cells #[.slice A0_0 l0_0.length c0_0, .slice A0_1 l0_1.length c0_1, .slice A0_2 l0_2.length c0_2, .slice A0_3 l0_3.length c0_3, .slice A0_4 l0_4.length c0_4] 26 (0, 0)) (by (with_reducible repeat (first | refine blk_drewN ?_ _ | refine blk_drew ?_ | refine blk_alloc ?_ _)); exact BK1112.out)) : gb1113 ≠ gb1112)); clear BK1112; clear HB; have BK1112 := n0_; have HB := n1_; have BK1113 := n2_; have GW1113 := n3_; have GE1113 := n4_; have NB1112_1113 := n5_; have NB1113_1112 := n6_; clear n0_ n1_ n2_ n3_ n4_ n5_ n6_; clear hb hbox hg; have hnb25 := NB1112_1113.out; have hnc25 := NB1113_1112.out; have hcz26_0 : w24.cell? ⟨gb1112, 0, none⟩ = some (.slice A0_0 l0_0.length c0_0) := (blk_cell BK1112.out 0).trans rfl; have hcz26_1 : w24.cell? ⟨gb1112, 1, none⟩ = some (.slice A0_1 l0_1.length c0_1) := (blk_cell BK1112.out 1).trans rfl; have hcz26_2 : w24.cell? ⟨gb1112, 2, none⟩ = some (.slice A0_2 l0_2.length c0_2) := (blk_cell BK1112.out 2).trans rfl; have hcz26_3 : w24.cell? ⟨gb1112, 3, none⟩ = some (.slice A0_3 l0_3.length c0_3) := (blk_cell BK1112.out 3).trans rfl; have hcz26_4 : w24.cell? ⟨gb1112, 4, none⟩ = some (.slice A0_4 l0_4.length c0_4) := (blk_cell BK1112.out 4).trans rfl; have hfz26_0 := blk_frozen BK1112.out 0; have hfz26_1 := blk_frozen BK1112.out 1; have hfz26_2 := blk_frozen BK1112.out 2; have hfz26_3 := blk_frozen BK1112.out 3; have hfz26_4 := blk_frozen BK1112.out 4) | ((with_reducible refine gate_callee (f := 19) rfl ?_); refine goesL_ (some 9) rfl rfl Try.func19 (by kernel_rfl) rfl #[.agg #[.slice A0_0 l0_0.length c0_0, .slice A0_1 l0_1.length c0_1, .slice A0_2 l0_2.length c0_2, .slice A0_3 l0_3.length c0_3, .slice A0_4 l0_4.length c0_4]] rfl (by (try simp only [List.map_toArray, List.map_cons, List.map_nil]); first | done | rfl | (simp only [List.length_drop, List.length_take]; rfl)) ?_; (with_reducible refine (spec_StoreOk.calls k _ _ l0_0 _ _ l0_1 _ _ l0_2 _ _ l0_3 _ _ l0_4 true _ ?side1 ?side2 ?side3 ?side4 ?side5 ?side6 ?side7 ?side8 ?side9 ?side10 A4.out).mono ?_); (case side1 => repeat (first | exact (Kd.C_below HR0_0.out HB.out) | (with_reducible refine Kd.C_alloc ?_ _) | (with_reducible refine Kd.C_drewN ?_ _) | (with_reducible refine Kd.C_drew ?_))); (case side2 => exact HC0_0.out); (case side3 => repeat (first | exact (Kd.C_below HR0_1.out HB.out) | (with_reducible refine Kd.C_alloc ?_ _) | (with_reducible refine Kd.C_drewN ?_ _) | (with_reducible refine Kd.C_drew ?_))); (case side4 => exact HC0_1.out); (case side5 => repeat (first | exact (Kd.C_below HR0_2.out HB.out) | (with_reducible refine Kd.C_alloc ?_ _) | (with_reducible refine Kd.C_drewN ?_ _) | (with_reducible refine Kd.C_drew ?_))); (case side6 => exact HC0_2.out); (case side7 => repeat (first | exact (Kd.C_below HR0_3.out HB.out) | (with_reducible refine Kd.C_alloc ?_ _) | (with_reducible refine Kd.C_drewN ?_ _) | (with_reducible refine Kd.C_drew ?_))); (case side8 => exact HC0_3.out); (case side9 => repeat (first | exact (Kd.C_below HR0_4.out HB.out) | (with_reducible refine Kd.C_alloc ?_ _) | (with_reducible refine Kd.C_drewN ?_ _) | (with_reducible refine Kd.C_drew ?_))); (case side10 => exact HC0_4.out); rintro e w27 ⟨rfl, hb⟩; refine ⟨_, rfl, ?_⟩; have n0_ := Ak (blk_below (g := gb1112) (o := .cells #[.slice A0_0 l0_0.length c0_0, .slice A0_1 l0_1.length c0_1, .slice A0_2 l0_2.length c0_2, .slice A0_3 l0_3.length c0_3, .slice A0_4 l0_4.length c0_4] 26 (0, 0)) (by (with_reducible repeat (first | refine blk_drewN ?_ _ | refine blk_drew ?_ | refine blk_alloc ?_ _)); exact BK1112.out) hb); have n1_ := Ak (blk_below (g := gb1113) (o := .cells #[.int .i64 a2_0, .int .i64 a2_1] 42 (0, 0)) (by (with_reducible repeat (first | refine blk_drewN ?_ _ | refine blk_drew ?_ | refine blk_alloc ?_ _)); exact BK1113.out) hb); have n2_ := Ak (below_step (by repeat (first | (with_reducible first | exact HB.out | apply below_alloc | apply pw_below_drewN | apply below_drew1 | refine below_set ?_ GE1112.out | refine below_set ?_ GE1113.out) | exact HB.out)) hb); clear BK1112; clear BK1113; clear HB; have BK1112 := n0_; have BK1113 := n1_; have HB := n2_; clear n0_ n1_ n2_; (try clear hb); (try clear hb2); (try clear hk); (try clear hi); have hcz28_0 : w27.cell? ⟨gb1113, 0, none⟩ = some (.int .i64 a2_0) := (blk_cell BK1113.out 0).trans rfl; have hcz28_1 : w27.cell? ⟨gb1113, 1, none⟩ = some (.int .i64 a2_1) := (blk_cell BK1113.out 1).trans rfl; have hfz28_0 := blk_frozen BK1113.out 0; have hfz28_1 := blk_frozen BK1113.out 1) | (go_at_call 32; (with_reducible refine (spec_SpanOk.calls a2_0 a2_1 true _ A18.out).mono ?_); rintro e w29 ⟨rfl, hb⟩; have n0_ := Ak (blk_below (g := gb1112) (o := .cells #[.slice A0_0 l0_0.length c0_0, .slice A0_1 l0_1.length c0_1, .slice A0_2 l0_2.length c0_2, .slice A0_3 l0_3.length c0_3, .slice A0_4 l0_4.length c0_4] 26 (0, 0)) (by (with_reducible repeat (first | refine blk_drewN ?_ _ | refine blk_drew ?_ | refine blk_alloc ?_ _)); exact BK1112.out) hb); have n1_ := Ak (blk_below (g := gb1113) (o := .cells #[.int .i64 a2_0, .int .i64 a2_1] 42 (0, 0)) (by (with_reducible repeat (first | refine blk_drewN ?_ _ | refine blk_drew ?_ | refine blk_alloc ?_ _)); exact BK1113.out) hb); have n2_ := Ak (below_step (by repeat (first | (with_reducible first | exact HB.out | apply below_alloc | apply pw_below_drewN | apply below_drew1 | refine below_set ?_ GE1112.out | refine below_set ?_ GE1113.out) | exact HB.out)) hb); clear BK1112; clear BK1113; clear HB; have BK1112 := n0_; have BK1113 := n1_; have HB := n2_; clear n0_ n1_ n2_; (try clear hb); (try clear hb2); (try clear hk); (try clear hi)))
       have n0_ := Ak (blk_drew BK1112.out)
       have n1_ := Ak (blk_drew BK1113.out)
       have n2_ := Ak (below_drew1 HB.out)
       clear BK1112
       clear BK1113
       clear HB
       have BK1112 := n0_
       have BK1113 := n1_
       have HB := n2_
       clear n0_ n1_ n2_
       have p1116 : 0 ≤ (a1 : Int) := of_decide_eq_true (by first | (with_reducible assumption) | assumption)
       have q1116 : a1 < (l0_0.length : Int) := of_decide_eq_true (by first | (with_reducible assumption) | assumption)
       obtain ⟨ad1116, e1116, hx1116_0⟩ := Kd.at_string HR0_0.out a1 p1116 q1116
       have hw1116_0 := hx1116_0
       cases e1116
       replace hx1116_0 := (HB.out.cell (World.block_lt_of_cell? w _ hx1116_0)).trans hx1116_0
       replace p1116 := eq_true p1116
       replace q1116 := eq_true q1116
       refine start_ (n := 9) (S := fun w' => w'.cell? ⟨gb1112, 0, none⟩ = some (.slice (some ad1116) l0_0.length c0_0) ∧ w'.cell? ⟨gb1112, 1, none⟩ = some (.slice A0_1 l0_1.length c0_1) ∧ w'.cell? ⟨gb1112, 2, none⟩ = some (.slice A0_2 l0_2.length c0_2) ∧ w'.cell? ⟨gb1112, 3, none⟩ = some (.slice A0_3 l0_3.length c0_3) ∧ w'.cell? ⟨gb1112, 4, none⟩ = some (.slice A0_4 l0_4.length c0_4) ∧ w'.cell? ⟨gb1113, 0, none⟩ = some (.int .i64 a2_0) ∧ w'.cell? ⟨gb1113, 1, none⟩ = some (.int .i64 a2_1) ∧ w'.cell? (ad1116.add (a1).toNat) = some (.string (rdOf ByteArray.empty l0_0 a1))) (ds := []) #[false, false, false, false, false, false, false, false, false] (by kernel_rfl) rfl rfl ⟨(blk_cell BK1112.out 0).trans rfl, (blk_cell BK1112.out 1).trans rfl, (blk_cell BK1112.out 2).trans rfl, (blk_cell BK1112.out 3).trans rfl, (blk_cell BK1112.out 4).trans rfl, (blk_cell BK1113.out 0).trans rfl, (blk_cell BK1113.out 1).trans rfl, ((HB.out.cell (World.block_lt_of_cell? w _ hw1116_0)).trans hw1116_0)⟩ (fun hHeld => ?_); refine with_tabW spec_StoreRead.tab3 spec_StoreRead.bits3 (fun HT_ HW_ => ?_)
       generalize w29.drew = w30 at BK1112 BK1113 HB hx1116_0 hHeld ⊢
       refine pure_ (i := 0) (N := some 24) (v := ?_) (a' := ?_) #[true, false, false, false, false, false, false, false, false] rfl rfl (any_of HT_.out (by kernel_rfl)) (fun _ _ _ h => h) (Or.inl ⟨by rfl, ?_⟩) ?_ ?_
       rotate_left
       ·intro w'
        go_simp
        with_reducible rfl
       rotate_left
       ·simp only [Act.put, List.setIfInBounds_toArray, List.set_cons_zero, List.set_cons_succ, i64_w, i32_w]
        rfl
       refine pure_ (i := 2) (N := some 26) (v := ?_) (a' := ?_) #[true, false, true, false, false, false, false, false, false] rfl rfl (any_of HT_.out (by kernel_rfl)) (fun _ _ _ h => h) (Or.inl ⟨by rfl, ?_⟩) ?_ ?_
       rotate_left
       ·intro w'
        go_simp
        with_reducible rfl
       rotate_left
       ·simp only [Act.put, List.setIfInBounds_toArray, List.set_cons_zero, List.set_cons_succ, i64_w, i32_w]
        rfl
       refine take_ (i := 1) (N := some 25) (v := ?_) (a' := ?_) #[true, true, true, false, false, false, false, false, false] rfl rfl (take_ofW HT_.out HW_.out (by kernel_rfl)) (fun _ _ _ h => h) (Or.inl ⟨by rfl, ?_⟩) hHeld ?_ ?_
       rotate_left
       ·rintro w' ⟨s0, s1, s2, s3, s4, s5, s6, s7⟩
        go_simp
        with_reducible rfl
       rotate_left
       ·simp only [Act.put, List.setIfInBounds_toArray, List.set_cons_zero, List.set_cons_succ, i64_w, i32_w]
        rfl
       refine pure_ (i := 3) (N := some 27) (v := ?_) (a' := ?_) #[true, true, true, true, false, false, false, false, false] rfl rfl (any_of HT_.out (by kernel_rfl)) (fun _ _ _ h => h) (Or.inl ⟨by rfl, ?_⟩) ?_ ?_
       rotate_left
       ·intro w'
        go_simp
        with_reducible rfl
       rotate_left
       ·simp only [Act.put, List.setIfInBounds_toArray, List.set_cons_zero, List.set_cons_succ, i64_w, i32_w]
        rfl
       refine take_ (i := 4) (N := some 28) (v := ?_) (a' := ?_) #[true, true, true, true, true, false, false, false, false] rfl rfl (take_ofW HT_.out HW_.out (by kernel_rfl)) (fun _ _ _ h => h) (Or.inl ⟨by rfl, ?_⟩) hHeld ?_ ?_
       rotate_left
       ·rintro w' ⟨s0, s1, s2, s3, s4, s5, s6, s7⟩
        go_simp
        with_reducible rfl
       rotate_left
       ·simp only [Act.put, List.setIfInBounds_toArray, List.set_cons_zero, List.set_cons_succ, i64_w, i32_w]
        rfl
       refine take_ (i := 5) (N := some 29) (v := ?_) (a' := ?_) #[true, true, true, true, true, true, false, false, false] rfl rfl (take_ofW HT_.out HW_.out (by kernel_rfl)) (fun _ _ _ h => h) (Or.inl ⟨by rfl, ?_⟩) hHeld ?_ ?_
       rotate_left
       ·rintro w' ⟨s0, s1, s2, s3, s4, s5, s6, s7⟩
        go_simp
        with_reducible rfl
       rotate_left
       ·simp only [Act.put, List.setIfInBounds_toArray, List.set_cons_zero, List.set_cons_succ, i64_w, i32_w]
        rfl
       refine one_ (i := 6) (N := some 30) #[true, true, true, true, true, true, true, false, false] rfl rfl (one_of HT_.out (by kernel_rfl)) (by decide) (fun K hK => ?_)
       refine goes_ Try.func66 (by kernel_rfl) rfl #[.string (rdOf ByteArray.empty l0_0 a1), .agg #[.int .i64 a2_0, .int .i64 a2_1]] (by rfl) rfl rfl (by (try simp only [List.map_toArray, List.map_cons, List.map_nil]); first | done | rfl | (simp only [List.length_drop, List.length_take]; rfl)) ?_
       with_reducible refine (spec_l2Read.calls (rdOf ByteArray.empty l0_0 a1) a2_0 a2_1 t1117 _ A22.out).mono ?_
       rintro e w31 ⟨rfl, hb⟩
       refine ⟨_, rfl, ?_⟩
       have n0_ := Ak (blk_below (g := gb1112) (o := .cells #[.slice (some ad1116) l0_0.length c0_0, .slice A0_1 l0_1.length c0_1, .slice A0_2 l0_2.length c0_2, .slice A0_3 l0_3.length c0_3, .slice A0_4 l0_4.length c0_4] 26 (0, 0)) (by (with_reducible repeat (first | refine blk_drewN ?_ _ | refine blk_drew ?_ | refine blk_alloc ?_ _)); exact BK1112.out) hb)
       have n1_ := Ak (blk_below (g := gb1113) (o := .cells #[.int .i64 a2_0, .int .i64 a2_1] 42 (0, 0)) (by (with_reducible repeat (first | refine blk_drewN ?_ _ | refine blk_drew ?_ | refine blk_alloc ?_ _)); exact BK1113.out) hb)
       have n2_ := Ak (below_step (by repeat (first | (with_reducible first | exact HB.out | apply below_alloc | apply pw_below_drewN | apply below_drew1 | refine below_set ?_ GE1112.out | refine below_set ?_ GE1113.out) | exact HB.out)) hb)
       clear BK1112
       clear BK1113
       clear HB
       have BK1112 := n0_
       have BK1113 := n1_
       have HB := n2_
       clear n0_ n1_ n2_
       (try clear hb)
       (try clear hb2)
       (try clear hk)
       (try clear hi)
       refine hK.out _ _ ⟨(blk_cell BK1112.out 0).trans rfl, (blk_cell BK1112.out 1).trans rfl, (blk_cell BK1112.out 2).trans rfl, (blk_cell BK1112.out 3).trans rfl, (blk_cell BK1112.out 4).trans rfl, (blk_cell BK1113.out 0).trans rfl, (blk_cell BK1113.out 1).trans rfl, ((HB.out.cell (World.block_lt_of_cell? w _ hw1116_0)).trans hw1116_0)⟩ (fun hHeld => ?_)
       clear hK K
       refine norm_ (a' := ?_) ?_ ?_
       rotate_left
       ·show Act.put _ (some 30) _ = _
        simp only [Act.put, List.setIfInBounds_toArray, List.set_cons_zero, List.set_cons_succ, i64_w, i32_w]
        rfl
       refine pure_ (i := 7) (N := some 6) (v := ?_) (a' := ?_) #[true, true, true, true, true, true, true, true, false] rfl rfl (any_of HT_.out (by kernel_rfl)) (fun _ _ _ h => h) (Or.inl ⟨by rfl, ?_⟩) ?_ ?_
       rotate_left
       ·intro w'
        go_simp
        with_reducible rfl
       rotate_left
       ·simp only [Act.put, List.setIfInBounds_toArray, List.set_cons_zero, List.set_cons_succ, i64_w, i32_w]
        rfl
       refine pure_ (i := 8) (N := some 7) (v := ?_) (a' := ?_) #[true, true, true, true, true, true, true, true, true] rfl rfl (any_of HT_.out (by kernel_rfl)) (fun _ _ _ h => h) (Or.inl ⟨by rfl, ?_⟩) ?_ ?_
       rotate_left
       ·intro w'
        go_simp
        with_reducible rfl
       rotate_left
       ·simp only [Act.put, List.setIfInBounds_toArray, List.set_cons_zero, List.set_cons_succ, i64_w, i32_w]
        rfl
       refine done_ (done_of HT_.out (by kernel_rfl)) ?_
       try go_wp2
       go_ret2
       exact ⟨by first | rfl | (simp [errW_none, errW_some] <;> rfl) | (simp [*, errW_none, errW_some] <;> rfl), by repeat (first | (with_reducible first | exact HB.out | apply below_alloc | apply pw_below_drewN | apply below_drew1 | refine below_set ?_ GE1112.out | refine below_set ?_ GE1113.out) | exact HB.out)⟩
      ·rw [if_neg c21] at H
       exact absurd H (by simp)
     ·rw [if_neg c20] at H
      exact absurd H (by simp)
    ·replace c19 := Bool.eq_false_iff.mpr c19
     subst c19
     have H1 : (some ((⟨#[]⟩ : ByteArray), false)) = some (r1, r2) := by rw [if_neg (show ¬ (false = true) by decide)] at H; exact H
     clear H
     have H := H1
     clear H1
     simp only [Option.some.injEq, Prod.mk.injEq] at H
     obtain ⟨rfl, rfl⟩ := H
     go_enter Try.func31, Try.ntmps31
     go_wp2_with (first | ((with_reducible refine gate_dst (N := 3) rfl ?_); refine box_event ?hg (N := 3) ?hd (cs := #[.slice A0_0 l0_0.length c0_0, .slice A0_1 l0_1.length c0_1, .slice A0_2 l0_2.length c0_2, .slice A0_3 l0_3.length c0_3, .slice A0_4 l0_4.length c0_4]) (t := 26) ?hr ?_; (case hd => rfl); (case hg => rfl); (case hr => first | (go_simp; done) | (go_simp; rfl)); intro gb1112 hg w32 hbox hb; have n0_ := Ak (below_step (by repeat (first | (with_reducible first | exact HB.out | apply below_alloc | apply pw_below_drewN | apply below_drew1) | exact HB.out)) hb); have n1_ := Ak (hbox); have n2_ := Ak ((by rw [hg]; exact (below_size (by repeat (first | (with_reducible first | exact HB.out | apply below_alloc | apply pw_below_drewN | apply below_drew1) | exact HB.out))) : w.heap.size ≤ gb1112)); have n3_ := Ak ((by rw [hg]; exact (below_size (by repeat (first | (with_reducible first | exact HB.out | apply below_alloc | apply pw_below_drewN | apply below_drew1) | exact HB.out))) : w.heap.size ≤ gb1112)); clear HB; have HB := n0_; have BK1112 := n1_; have GW1112 := n2_; have GE1112 := n3_; clear n0_ n1_ n2_ n3_; clear hb hbox hg) | ((with_reducible refine gate_dst (N := 5) rfl ?_); refine box_event ?hg (N := 5) ?hd (cs := #[.int .i64 a2_0, .int .i64 a2_1]) (t := 42) ?hr ?_; (case hd => rfl); (case hg => rfl); (case hr => first | (go_simp; done) | (go_simp; rfl)); intro gb1113 hg w33 hbox hb; have n0_ := Ak (blk_below (g := gb1112) (o := .cells #[.slice A0_0 l0_0.length c0_0, .slice A0_1 l0_1.length c0_1, .slice A0_2 l0_2.length c0_2, .slice A0_3 l0_3.length c0_3, .slice A0_4 l0_4.length c0_4] 26 (0, 0)) (by (with_reducible repeat (first | refine blk_drewN ?_ _ | refine blk_drew ?_ | refine blk_alloc ?_ _)); exact BK1112.out) hb); have n1_ := Ak (below_step (by repeat (first | (with_reducible first | exact HB.out | apply below_alloc | apply pw_below_drewN | apply below_drew1 | refine below_set ?_ GE1112.out) | exact HB.out)) hb); have n2_ := Ak (hbox); have n3_ := Ak ((by rw [hg]; exact (below_size (by repeat (first | (with_reducible first | exact HB.out | apply below_alloc | apply pw_below_drewN | apply below_drew1 | refine below_set ?_ GE1112.out) | exact HB.out))) : w.heap.size ≤ gb1113)); have n4_ := Ak ((by rw [hg]; exact (below_size (by repeat (first | (with_reducible first | exact HB.out | apply below_alloc | apply pw_below_drewN | apply below_drew1 | refine below_set ?_ GE1112.out) | exact HB.out))) : w.heap.size ≤ gb1113)); have n5_ := Ak ((by rw [hg]; exact Nat.ne_of_lt (blk_lt (g := gb1112) (o := .cells #[.slice A0_0 l0_0.length c0_0, .slice A0_1 l0_1.length c0_1, .slice A0_2 l0_2.length c0_2, .slice A0_3 l0_3.length c0_3, .slice A0_4 l0_4.length c0_4] 26 (0, 0)) (by (with_reducible repeat (first | refine blk_drewN ?_ _ | refine blk_drew ?_ | refine blk_alloc ?_ _)); exact BK1112.out)) : gb1112 ≠ gb1113)); have n6_ := Ak ((by rw [hg]; exact Nat.ne_of_gt (blk_lt (g := gb1112) (o := .cells #[.slice A0_0 l0_0.length c0_0, .slice A0_1 l0_1.length c0_1, .slice A0_2 l0_2.length c0_2, .slice A0_3 l0_3.length c0_3, .slice A0_4 l0_4.length c0_4] 26 (0, 0)) (by (with_reducible repeat (first | refine blk_drewN ?_ _ | refine blk_drew ?_ | refine blk_alloc ?_ _)); exact BK1112.out)) : gb1113 ≠ gb1112)); clear BK1112; clear HB; have BK1112 := n0_; have HB := n1_; have BK1113 := n2_; have GW1113 := n3_; have GE1113 := n4_; have NB1112_1113 := n5_; have NB1113_1112 := n6_; clear n0_ n1_ n2_ n3_ n4_ n5_ n6_; clear hb hbox hg; have hnb34 := NB1112_1113.out; have hnc34 := NB1113_1112.out; have hcz35_0 : w33.cell? ⟨gb1112, 0, none⟩ = some (.slice A0_0 l0_0.length c0_0) := (blk_cell BK1112.out 0).trans rfl; have hcz35_1 : w33.cell? ⟨gb1112, 1, none⟩ = some (.slice A0_1 l0_1.length c0_1) := (blk_cell BK1112.out 1).trans rfl; have hcz35_2 : w33.cell? ⟨gb1112, 2, none⟩ = some (.slice A0_2 l0_2.length c0_2) := (blk_cell BK1112.out 2).trans rfl; have hcz35_3 : w33.cell? ⟨gb1112, 3, none⟩ = some (.slice A0_3 l0_3.length c0_3) := (blk_cell BK1112.out 3).trans rfl; have hcz35_4 : w33.cell? ⟨gb1112, 4, none⟩ = some (.slice A0_4 l0_4.length c0_4) := (blk_cell BK1112.out 4).trans rfl; have hfz35_0 := blk_frozen BK1112.out 0; have hfz35_1 := blk_frozen BK1112.out 1; have hfz35_2 := blk_frozen BK1112.out 2; have hfz35_3 := blk_frozen BK1112.out 3; have hfz35_4 := blk_frozen BK1112.out 4) | ((with_reducible refine gate_callee (f := 19) rfl ?_); refine goesL_ (some 9) rfl rfl Try.func19 (by kernel_rfl) rfl #[.agg #[.slice A0_0 l0_0.length c0_0, .slice A0_1 l0_1.length c0_1, .slice A0_2 l0_2.length c0_2, .slice A0_3 l0_3.length c0_3, .slice A0_4 l0_4.length c0_4]] rfl (by (try simp only [List.map_toArray, List.map_cons, List.map_nil]); first | done | rfl | (simp only [List.length_drop, List.length_take]; rfl)) ?_; (with_reducible refine (spec_StoreOk.calls k _ _ l0_0 _ _ l0_1 _ _ l0_2 _ _ l0_3 _ _ l0_4 true _ ?side1 ?side2 ?side3 ?side4 ?side5 ?side6 ?side7 ?side8 ?side9 ?side10 A4.out).mono ?_); (case side1 => repeat (first | exact (Kd.C_below HR0_0.out HB.out) | (with_reducible refine Kd.C_alloc ?_ _) | (with_reducible refine Kd.C_drewN ?_ _) | (with_reducible refine Kd.C_drew ?_))); (case side2 => exact HC0_0.out); (case side3 => repeat (first | exact (Kd.C_below HR0_1.out HB.out) | (with_reducible refine Kd.C_alloc ?_ _) | (with_reducible refine Kd.C_drewN ?_ _) | (with_reducible refine Kd.C_drew ?_))); (case side4 => exact HC0_1.out); (case side5 => repeat (first | exact (Kd.C_below HR0_2.out HB.out) | (with_reducible refine Kd.C_alloc ?_ _) | (with_reducible refine Kd.C_drewN ?_ _) | (with_reducible refine Kd.C_drew ?_))); (case side6 => exact HC0_2.out); (case side7 => repeat (first | exact (Kd.C_below HR0_3.out HB.out) | (with_reducible refine Kd.C_alloc ?_ _) | (with_reducible refine Kd.C_drewN ?_ _) | (with_reducible refine Kd.C_drew ?_))); (case side8 => exact HC0_3.out); (case side9 => repeat (first | exact (Kd.C_below HR0_4.out HB.out) | (with_reducible refine Kd.C_alloc ?_ _) | (with_reducible refine Kd.C_drewN ?_ _) | (with_reducible refine Kd.C_drew ?_))); (case side10 => exact HC0_4.out); rintro e w36 ⟨rfl, hb⟩; refine ⟨_, rfl, ?_⟩; have n0_ := Ak (blk_below (g := gb1112) (o := .cells #[.slice A0_0 l0_0.length c0_0, .slice A0_1 l0_1.length c0_1, .slice A0_2 l0_2.length c0_2, .slice A0_3 l0_3.length c0_3, .slice A0_4 l0_4.length c0_4] 26 (0, 0)) (by (with_reducible repeat (first | refine blk_drewN ?_ _ | refine blk_drew ?_ | refine blk_alloc ?_ _)); exact BK1112.out) hb); have n1_ := Ak (blk_below (g := gb1113) (o := .cells #[.int .i64 a2_0, .int .i64 a2_1] 42 (0, 0)) (by (with_reducible repeat (first | refine blk_drewN ?_ _ | refine blk_drew ?_ | refine blk_alloc ?_ _)); exact BK1113.out) hb); have n2_ := Ak (below_step (by repeat (first | (with_reducible first | exact HB.out | apply below_alloc | apply pw_below_drewN | apply below_drew1 | refine below_set ?_ GE1112.out | refine below_set ?_ GE1113.out) | exact HB.out)) hb); clear BK1112; clear BK1113; clear HB; have BK1112 := n0_; have BK1113 := n1_; have HB := n2_; clear n0_ n1_ n2_; (try clear hb); (try clear hb2); (try clear hk); (try clear hi); have hcz37_0 : w36.cell? ⟨gb1113, 0, none⟩ = some (.int .i64 a2_0) := (blk_cell BK1113.out 0).trans rfl; have hcz37_1 : w36.cell? ⟨gb1113, 1, none⟩ = some (.int .i64 a2_1) := (blk_cell BK1113.out 1).trans rfl; have hfz37_0 := blk_frozen BK1113.out 0; have hfz37_1 := blk_frozen BK1113.out 1) | (go_at_call 32; (with_reducible refine (spec_SpanOk.calls a2_0 a2_1 false _ A18.out).mono ?_); rintro e w38 ⟨rfl, hb⟩; have n0_ := Ak (blk_below (g := gb1112) (o := .cells #[.slice A0_0 l0_0.length c0_0, .slice A0_1 l0_1.length c0_1, .slice A0_2 l0_2.length c0_2, .slice A0_3 l0_3.length c0_3, .slice A0_4 l0_4.length c0_4] 26 (0, 0)) (by (with_reducible repeat (first | refine blk_drewN ?_ _ | refine blk_drew ?_ | refine blk_alloc ?_ _)); exact BK1112.out) hb); have n1_ := Ak (blk_below (g := gb1113) (o := .cells #[.int .i64 a2_0, .int .i64 a2_1] 42 (0, 0)) (by (with_reducible repeat (first | refine blk_drewN ?_ _ | refine blk_drew ?_ | refine blk_alloc ?_ _)); exact BK1113.out) hb); have n2_ := Ak (below_step (by repeat (first | (with_reducible first | exact HB.out | apply below_alloc | apply pw_below_drewN | apply below_drew1 | refine below_set ?_ GE1112.out | refine below_set ?_ GE1113.out) | exact HB.out)) hb); clear BK1112; clear BK1113; clear HB; have BK1112 := n0_; have BK1113 := n1_; have HB := n2_; clear n0_ n1_ n2_; (try clear hb); (try clear hb2); (try clear hk); (try clear hi)))
     go_ret2
     exact ⟨by first | rfl | (simp [errW_none, errW_some] <;> rfl) | (simp [*, errW_none, errW_some] <;> rfl), by repeat (first | (with_reducible first | exact HB.out | apply below_alloc | apply pw_below_drewN | apply below_drew1 | refine below_set ?_ GE1112.out | refine below_set ?_ GE1113.out) | exact HB.out)⟩
 ·replace c5 := Bool.eq_false_iff.mpr c5
  subst c5
  have H1 : (some ((⟨#[]⟩ : ByteArray), false)) = some (r1, r2) := by rw [if_neg (show ¬ (false = true) by decide)] at H; exact H
  clear H
  have H := H1
  clear H1
  simp only [Option.some.injEq, Prod.mk.injEq] at H
  obtain ⟨rfl, rfl⟩ := H
  go_enter Try.func31, Try.ntmps31
  go_wp2_with (first | ((with_reducible refine gate_dst (N := 3) rfl ?_); refine box_event ?hg (N := 3) ?hd (cs := #[.slice A0_0 l0_0.length c0_0, .slice A0_1 l0_1.length c0_1, .slice A0_2 l0_2.length c0_2, .slice A0_3 l0_3.length c0_3, .slice A0_4 l0_4.length c0_4]) (t := 26) ?hr ?_; (case hd => rfl); (case hg => rfl); (case hr => first | (go_simp; done) | (go_simp; rfl)); intro gb1112 hg w39 hbox hb; have n0_ := Ak (below_step (by repeat (first | (with_reducible first | exact HB.out | apply below_alloc | apply pw_below_drewN | apply below_drew1) | exact HB.out)) hb); have n1_ := Ak (hbox); have n2_ := Ak ((by rw [hg]; exact (below_size (by repeat (first | (with_reducible first | exact HB.out | apply below_alloc | apply pw_below_drewN | apply below_drew1) | exact HB.out))) : w.heap.size ≤ gb1112)); have n3_ := Ak ((by rw [hg]; exact (below_size (by repeat (first | (with_reducible first | exact HB.out | apply below_alloc | apply pw_below_drewN | apply below_drew1) | exact HB.out))) : w.heap.size ≤ gb1112)); clear HB; have HB := n0_; have BK1112 := n1_; have GW1112 := n2_; have GE1112 := n3_; clear n0_ n1_ n2_ n3_; clear hb hbox hg) | ((with_reducible refine gate_dst (N := 5) rfl ?_); refine box_event ?hg (N := 5) ?hd (cs := #[.int .i64 a2_0, .int .i64 a2_1]) (t := 42) ?hr ?_; (case hd => rfl); (case hg => rfl); (case hr => first | (go_simp; done) | (go_simp; rfl)); intro gb1113 hg w40 hbox hb; have n0_ := Ak (blk_below (g := gb1112) (o := .cells #[.slice A0_0 l0_0.length c0_0, .slice A0_1 l0_1.length c0_1, .slice A0_2 l0_2.length c0_2, .slice A0_3 l0_3.length c0_3, .slice A0_4 l0_4.length c0_4] 26 (0, 0)) (by (with_reducible repeat (first | refine blk_drewN ?_ _ | refine blk_drew ?_ | refine blk_alloc ?_ _)); exact BK1112.out) hb); have n1_ := Ak (below_step (by repeat (first | (with_reducible first | exact HB.out | apply below_alloc | apply pw_below_drewN | apply below_drew1 | refine below_set ?_ GE1112.out) | exact HB.out)) hb); have n2_ := Ak (hbox); have n3_ := Ak ((by rw [hg]; exact (below_size (by repeat (first | (with_reducible first | exact HB.out | apply below_alloc | apply pw_below_drewN | apply below_drew1 | refine below_set ?_ GE1112.out) | exact HB.out))) : w.heap.size ≤ gb1113)); have n4_ := Ak ((by rw [hg]; exact (below_size (by repeat (first | (with_reducible first | exact HB.out | apply below_alloc | apply pw_below_drewN | apply below_drew1 | refine below_set ?_ GE1112.out) | exact HB.out))) : w.heap.size ≤ gb1113)); have n5_ := Ak ((by rw [hg]; exact Nat.ne_of_lt (blk_lt (g := gb1112) (o := .cells #[.slice A0_0 l0_0.length c0_0, .slice A0_1 l0_1.length c0_1, .slice A0_2 l0_2.length c0_2, .slice A0_3 l0_3.length c0_3, .slice A0_4 l0_4.length c0_4] 26 (0, 0)) (by (with_reducible repeat (first | refine blk_drewN ?_ _ | refine blk_drew ?_ | refine blk_alloc ?_ _)); exact BK1112.out)) : gb1112 ≠ gb1113)); have n6_ := Ak ((by rw [hg]; exact Nat.ne_of_gt (blk_lt (g := gb1112) (o := .cells #[.slice A0_0 l0_0.length c0_0, .slice A0_1 l0_1.length c0_1, .slice A0_2 l0_2.length c0_2, .slice A0_3 l0_3.length c0_3, .slice A0_4 l0_4.length c0_4] 26 (0, 0)) (by (with_reducible repeat (first | refine blk_drewN ?_ _ | refine blk_drew ?_ | refine blk_alloc ?_ _)); exact BK1112.out)) : gb1113 ≠ gb1112)); clear BK1112; clear HB; have BK1112 := n0_; have HB := n1_; have BK1113 := n2_; have GW1113 := n3_; have GE1113 := n4_; have NB1112_1113 := n5_; have NB1113_1112 := n6_; clear n0_ n1_ n2_ n3_ n4_ n5_ n6_; clear hb hbox hg; have hnb41 := NB1112_1113.out; have hnc41 := NB1113_1112.out; have hcz42_0 : w40.cell? ⟨gb1112, 0, none⟩ = some (.slice A0_0 l0_0.length c0_0) := (blk_cell BK1112.out 0).trans rfl; have hcz42_1 : w40.cell? ⟨gb1112, 1, none⟩ = some (.slice A0_1 l0_1.length c0_1) := (blk_cell BK1112.out 1).trans rfl; have hcz42_2 : w40.cell? ⟨gb1112, 2, none⟩ = some (.slice A0_2 l0_2.length c0_2) := (blk_cell BK1112.out 2).trans rfl; have hcz42_3 : w40.cell? ⟨gb1112, 3, none⟩ = some (.slice A0_3 l0_3.length c0_3) := (blk_cell BK1112.out 3).trans rfl; have hcz42_4 : w40.cell? ⟨gb1112, 4, none⟩ = some (.slice A0_4 l0_4.length c0_4) := (blk_cell BK1112.out 4).trans rfl; have hfz42_0 := blk_frozen BK1112.out 0; have hfz42_1 := blk_frozen BK1112.out 1; have hfz42_2 := blk_frozen BK1112.out 2; have hfz42_3 := blk_frozen BK1112.out 3; have hfz42_4 := blk_frozen BK1112.out 4) | ((with_reducible refine gate_callee (f := 19) rfl ?_); refine goesL_ (some 9) rfl rfl Try.func19 (by kernel_rfl) rfl #[.agg #[.slice A0_0 l0_0.length c0_0, .slice A0_1 l0_1.length c0_1, .slice A0_2 l0_2.length c0_2, .slice A0_3 l0_3.length c0_3, .slice A0_4 l0_4.length c0_4]] rfl (by (try simp only [List.map_toArray, List.map_cons, List.map_nil]); first | done | rfl | (simp only [List.length_drop, List.length_take]; rfl)) ?_; (with_reducible refine (spec_StoreOk.calls k _ _ l0_0 _ _ l0_1 _ _ l0_2 _ _ l0_3 _ _ l0_4 false _ ?side1 ?side2 ?side3 ?side4 ?side5 ?side6 ?side7 ?side8 ?side9 ?side10 A4.out).mono ?_); (case side1 => repeat (first | exact (Kd.C_below HR0_0.out HB.out) | (with_reducible refine Kd.C_alloc ?_ _) | (with_reducible refine Kd.C_drewN ?_ _) | (with_reducible refine Kd.C_drew ?_))); (case side2 => exact HC0_0.out); (case side3 => repeat (first | exact (Kd.C_below HR0_1.out HB.out) | (with_reducible refine Kd.C_alloc ?_ _) | (with_reducible refine Kd.C_drewN ?_ _) | (with_reducible refine Kd.C_drew ?_))); (case side4 => exact HC0_1.out); (case side5 => repeat (first | exact (Kd.C_below HR0_2.out HB.out) | (with_reducible refine Kd.C_alloc ?_ _) | (with_reducible refine Kd.C_drewN ?_ _) | (with_reducible refine Kd.C_drew ?_))); (case side6 => exact HC0_2.out); (case side7 => repeat (first | exact (Kd.C_below HR0_3.out HB.out) | (with_reducible refine Kd.C_alloc ?_ _) | (with_reducible refine Kd.C_drewN ?_ _) | (with_reducible refine Kd.C_drew ?_))); (case side8 => exact HC0_3.out); (case side9 => repeat (first | exact (Kd.C_below HR0_4.out HB.out) | (with_reducible refine Kd.C_alloc ?_ _) | (with_reducible refine Kd.C_drewN ?_ _) | (with_reducible refine Kd.C_drew ?_))); (case side10 => exact HC0_4.out); rintro e w43 ⟨rfl, hb⟩; refine ⟨_, rfl, ?_⟩; have n0_ := Ak (blk_below (g := gb1112) (o := .cells #[.slice A0_0 l0_0.length c0_0, .slice A0_1 l0_1.length c0_1, .slice A0_2 l0_2.length c0_2, .slice A0_3 l0_3.length c0_3, .slice A0_4 l0_4.length c0_4] 26 (0, 0)) (by (with_reducible repeat (first | refine blk_drewN ?_ _ | refine blk_drew ?_ | refine blk_alloc ?_ _)); exact BK1112.out) hb); have n1_ := Ak (blk_below (g := gb1113) (o := .cells #[.int .i64 a2_0, .int .i64 a2_1] 42 (0, 0)) (by (with_reducible repeat (first | refine blk_drewN ?_ _ | refine blk_drew ?_ | refine blk_alloc ?_ _)); exact BK1113.out) hb); have n2_ := Ak (below_step (by repeat (first | (with_reducible first | exact HB.out | apply below_alloc | apply pw_below_drewN | apply below_drew1 | refine below_set ?_ GE1112.out | refine below_set ?_ GE1113.out) | exact HB.out)) hb); clear BK1112; clear BK1113; clear HB; have BK1112 := n0_; have BK1113 := n1_; have HB := n2_; clear n0_ n1_ n2_; (try clear hb); (try clear hb2); (try clear hk); (try clear hi)))
  go_ret2
  exact ⟨by first | rfl | (simp [errW_none, errW_some] <;> rfl) | (simp [*, errW_none, errW_some] <;> rfl), by repeat (first | (with_reducible first | exact HB.out | apply below_alloc | apply pw_below_drewN | apply below_drew1 | refine below_set ?_ GE1112.out | refine below_set ?_ GE1113.out) | exact HB.out)⟩
end Go.Proofs.Ytmekkapacbdbeaa.P
namespace Go.Proofs.Ytmekkapacbdbeaa.P
open Go.RowKit Go.Proofs.YtmekkapacbdbeaaW.PrintWords Go.Proofs.YtmekkapacbdbeaaW.PrintLast Go.Proofs.YtmekkapacbdbeaaW.PrintMore
attribute [local go_sem] max2_int min2_int max_two min_two max_three min_three max_four min_four   
set_option linter.unusedVariables false
set_option linter.unusedSimpArgs false
def impl_SpanOk.f (a0_0 : Int) (a0_1 : Int) : Option (Bool) := if a0_0 ≥ 0 then (if a0_0 < a0_1 then (some (decide (a0_1 ≤ 48))) else (some false)) else (some false)
set_option maxHeartbeats 8000000 in
set_option maxRecDepth 100000 in
theorem impl_SpanOk.calls (a0_0 : Int) (a0_1 : Int) (r : Bool) (w : World) (h : impl_SpanOk.f a0_0 a0_1 = some r) :
  Calls Try.prog 59 #[.agg #[.int .i64 a0_0, .int .i64 a0_1]] w fun e w' => e = .returned (.bool r) ∧ Below w.heap.size w w' := by
 have hu42 := Try.underlying42
 have HB := Ak (Below.refl w.heap.size w)
 have H : (if a0_0 ≥ 0 then (if a0_0 < a0_1 then (some (decide (a0_1 ≤ 48))) else (some false)) else (some false)) = some r := h
 clear h
 by_cases c2 : a0_0 ≥ 0
 ·rw [if_pos c2] at H
  have c2b0 : decide (0 ≤ a0_0) = true := decide_eq_true c2
  clear c2
  by_cases c3 : a0_0 < a0_1
  ·rw [if_pos c3] at H
   have c3b0 : decide (a0_0 < a0_1) = true := decide_eq_true c3
   clear c3
   obtain rfl := Option.some.inj H
   go_enter Try.func59, Try.ntmps59
   go_wp2_with (first | ((with_reducible refine gate_dst (N := 1) rfl ?_); refine box_event ?hg (N := 1) ?hd (cs := #[.int .i64 a0_0, .int .i64 a0_1]) (t := 42) ?hr ?_; (case hd => rfl); (case hg => rfl); (case hr => first | (go_simp; done) | (go_simp; rfl)); intro gb826 hg w4 hbox hb; have n0_ := Ak (below_step (by repeat (first | (with_reducible first | exact HB.out | apply below_alloc | apply pw_below_drewN | apply below_drew1) | exact HB.out)) hb); have n1_ := Ak (hbox); have n2_ := Ak ((by rw [hg]; exact (below_size (by repeat (first | (with_reducible first | exact HB.out | apply below_alloc | apply pw_below_drewN | apply below_drew1) | exact HB.out))) : w.heap.size ≤ gb826)); have n3_ := Ak ((by rw [hg]; exact (below_size (by repeat (first | (with_reducible first | exact HB.out | apply below_alloc | apply pw_below_drewN | apply below_drew1) | exact HB.out))) : w.heap.size ≤ gb826)); clear HB; have HB := n0_; have BK826 := n1_; have GW826 := n2_; have GE826 := n3_; clear n0_ n1_ n2_ n3_; clear hb hbox hg; have hcz5_0 : w4.cell? ⟨gb826, 0, none⟩ = some (.int .i64 a0_0) := (blk_cell BK826.out 0).trans rfl; have hcz5_1 : w4.cell? ⟨gb826, 1, none⟩ = some (.int .i64 a0_1) := (blk_cell BK826.out 1).trans rfl; have hfz5_0 := blk_frozen BK826.out 0; have hfz5_1 := blk_frozen BK826.out 1))
   go_ret
   exact ⟨by first | rfl | (simp [errW_none, errW_some] <;> rfl) | (simp [*, errW_none, errW_some] <;> rfl), by repeat (first | (with_reducible first | exact HB.out | apply below_alloc | apply pw_below_drewN | apply below_drew1 | refine below_set ?_ GE826.out) | exact HB.out)⟩
  ·rw [if_neg c3] at H
   have c3b0 : decide (a0_0 < a0_1) = false := decide_eq_false c3
   clear c3
   obtain rfl := Option.some.inj H
   go_enter Try.func59, Try.ntmps59
   go_wp2_with (first | ((with_reducible refine gate_dst (N := 1) rfl ?_); refine box_event ?hg (N := 1) ?hd (cs := #[.int .i64 a0_0, .int .i64 a0_1]) (t := 42) ?hr ?_; (case hd => rfl); (case hg => rfl); (case hr => first | (go_simp; done) | (go_simp; rfl)); intro gb826 hg w6 hbox hb; have n0_ := Ak (below_step (by repeat (first | (with_reducible first | exact HB.out | apply below_alloc | apply pw_below_drewN | apply below_drew1) | exact HB.out)) hb); have n1_ := Ak (hbox); have n2_ := Ak ((by rw [hg]; exact (below_size (by repeat (first | (with_reducible first | exact HB.out | apply below_alloc | apply pw_below_drewN | apply below_drew1) | exact HB.out))) : w.heap.size ≤ gb826)); have n3_ := Ak ((by rw [hg]; exact (below_size (by repeat (first | (with_reducible first | exact HB.out | apply below_alloc | apply pw_below_drewN | apply below_drew1) | exact HB.out))) : w.heap.size ≤ gb826)); clear HB; have HB := n0_; have BK826 := n1_; have GW826 := n2_; have GE826 := n3_; clear n0_ n1_ n2_ n3_; clear hb hbox hg; have hcz7_0 : w6.cell? ⟨gb826, 0, none⟩ = some (.int .i64 a0_0) := (blk_cell BK826.out 0).trans rfl; have hcz7_1 : w6.cell? ⟨gb826, 1, none⟩ = some (.int .i64 a0_1) := (blk_cell BK826.out 1).trans rfl; have hfz7_0 := blk_frozen BK826.out 0; have hfz7_1 := blk_frozen BK826.out 1))
   go_ret
   exact ⟨by first | rfl | (simp [errW_none, errW_some] <;> rfl) | (simp [*, errW_none, errW_some] <;> rfl), by repeat (first | (with_reducible first | exact HB.out | apply below_alloc | apply pw_below_drewN | apply below_drew1 | refine below_set ?_ GE826.out) | exact HB.out)⟩
 ·rw [if_neg c2] at H
  have c2b0 : decide (0 ≤ a0_0) = false := decide_eq_false c2
  clear c2
  obtain rfl := Option.some.inj H
  go_enter Try.func59, Try.ntmps59
  go_wp2_with (first | ((with_reducible refine gate_dst (N := 1) rfl ?_); refine box_event ?hg (N := 1) ?hd (cs := #[.int .i64 a0_0, .int .i64 a0_1]) (t := 42) ?hr ?_; (case hd => rfl); (case hg => rfl); (case hr => first | (go_simp; done) | (go_simp; rfl)); intro gb826 hg w8 hbox hb; have n0_ := Ak (below_step (by repeat (first | (with_reducible first | exact HB.out | apply below_alloc | apply pw_below_drewN | apply below_drew1) | exact HB.out)) hb); have n1_ := Ak (hbox); have n2_ := Ak ((by rw [hg]; exact (below_size (by repeat (first | (with_reducible first | exact HB.out | apply below_alloc | apply pw_below_drewN | apply below_drew1) | exact HB.out))) : w.heap.size ≤ gb826)); have n3_ := Ak ((by rw [hg]; exact (below_size (by repeat (first | (with_reducible first | exact HB.out | apply below_alloc | apply pw_below_drewN | apply below_drew1) | exact HB.out))) : w.heap.size ≤ gb826)); clear HB; have HB := n0_; have BK826 := n1_; have GW826 := n2_; have GE826 := n3_; clear n0_ n1_ n2_ n3_; clear hb hbox hg; have hcz9_0 : w8.cell? ⟨gb826, 0, none⟩ = some (.int .i64 a0_0) := (blk_cell BK826.out 0).trans rfl; have hcz9_1 : w8.cell? ⟨gb826, 1, none⟩ = some (.int .i64 a0_1) := (blk_cell BK826.out 1).trans rfl; have hfz9_0 := blk_frozen BK826.out 0; have hfz9_1 := blk_frozen BK826.out 1))
  go_ret
  exact ⟨by first | rfl | (simp [errW_none, errW_some] <;> rfl) | (simp [*, errW_none, errW_some] <;> rfl), by repeat (first | (with_reducible first | exact HB.out | apply below_alloc | apply pw_below_drewN | apply below_drew1 | refine below_set ?_ GE826.out) | exact HB.out)⟩
end Go.Proofs.Ytmekkapacbdbeaa.P
namespace Go.Proofs.Ytmekkapacbdbeaa.P
open Go.RowKit Go.Proofs.YtmekkapacbdbeaaW.PrintWords Go.Proofs.YtmekkapacbdbeaaW.PrintLast Go.Proofs.YtmekkapacbdbeaaW.PrintMore
attribute [local go_sem] max2_int min2_int max_two min_two max_three min_three max_four min_four   
set_option linter.unusedVariables false
set_option linter.unusedSimpArgs false
def impl_TextRead.f (k : Nat) (a0 : ByteArray) (a1_0 : Int) (a1_1 : Int) : Option (ByteArray) := (impl_TextOk.f k a0).bind fun t828 => (if t828 = true then ((impl_SpanOk.f a1_0 a1_1).bind fun t829 => (if t829 = true then (if 0 ≤ (mn a1_0 (a0.size : Int)) then (if (mn a1_0 (a0.size : Int)) ≤ (mn a1_1 (a0.size : Int)) then (if (mn a1_1 (a0.size : Int)) ≤ (a0.size : Int) then (some (a0.extract ((mn a1_0 (a0.size : Int)) : Int).toNat ((mn a1_1 (a0.size : Int)) : Int).toNat)) else (none)) else (none)) else (none)) else (some (⟨#[]⟩ : ByteArray)))) else (some (⟨#[]⟩ : ByteArray)))
set_option maxHeartbeats 8000000 in
set_option maxRecDepth 100000 in
theorem impl_TextRead.calls (k : Nat) (a0 : ByteArray) (a1_0 : Int) (a1_1 : Int) (r : ByteArray) (w : World) (h : impl_TextRead.f k a0 a1_0 a1_1 = some r) :
  Calls Try.prog 33 #[.string a0, .agg #[.int .i64 a1_0, .int .i64 a1_1]] w fun e w' => e = .returned (.string r) ∧ Below w.heap.size w w' := by
 have hu42 := Try.underlying42
 have HB := Ak (Below.refl w.heap.size w)
 have H : ((impl_TextOk.f k a0).bind fun t828 => (if t828 = true then ((impl_SpanOk.f a1_0 a1_1).bind fun t829 => (if t829 = true then (if 0 ≤ (mn a1_0 (a0.size : Int)) then (if (mn a1_0 (a0.size : Int)) ≤ (mn a1_1 (a0.size : Int)) then (if (mn a1_1 (a0.size : Int)) ≤ (a0.size : Int) then (some (a0.extract ((mn a1_0 (a0.size : Int)) : Int).toNat ((mn a1_1 (a0.size : Int)) : Int).toNat)) else (none)) else (none)) else (none)) else (some (⟨#[]⟩ : ByteArray)))) else (some (⟨#[]⟩ : ByteArray)))) = some r := h
 clear h
 replace H := Option.bind_eq_some_iff.mp H
 obtain ⟨t828, A30, H⟩ := H
 replace H : (if t828 = true then ((impl_SpanOk.f a1_0 a1_1).bind fun t829 => (if t829 = true then (if 0 ≤ (mn a1_0 (a0.size : Int)) then (if (mn a1_0 (a0.size : Int)) ≤ (mn a1_1 (a0.size : Int)) then (if (mn a1_1 (a0.size : Int)) ≤ (a0.size : Int) then (some (a0.extract ((mn a1_0 (a0.size : Int)) : Int).toNat ((mn a1_1 (a0.size : Int)) : Int).toNat)) else (none)) else (none)) else (none)) else (some (⟨#[]⟩ : ByteArray)))) else (some (⟨#[]⟩ : ByteArray))) = some r := H
 have A3 := Ak A30
 clear A30
 by_cases c4 : t828 = true
 ·subst c4
  have H1 : ((impl_SpanOk.f a1_0 a1_1).bind fun t829 => (if t829 = true then (if 0 ≤ (mn a1_0 (a0.size : Int)) then (if (mn a1_0 (a0.size : Int)) ≤ (mn a1_1 (a0.size : Int)) then (if (mn a1_1 (a0.size : Int)) ≤ (a0.size : Int) then (some (a0.extract ((mn a1_0 (a0.size : Int)) : Int).toNat ((mn a1_1 (a0.size : Int)) : Int).toNat)) else (none)) else (none)) else (none)) else (some (⟨#[]⟩ : ByteArray)))) = some r := by rw [if_pos rfl] at H; exact H
  clear H
  have H := H1
  clear H1
  replace H := Option.bind_eq_some_iff.mp H
  obtain ⟨t829, A50, H⟩ := H
  replace H : (if t829 = true then (if 0 ≤ (mn a1_0 (a0.size : Int)) then (if (mn a1_0 (a0.size : Int)) ≤ (mn a1_1 (a0.size : Int)) then (if (mn a1_1 (a0.size : Int)) ≤ (a0.size : Int) then (some (a0.extract ((mn a1_0 (a0.size : Int)) : Int).toNat ((mn a1_1 (a0.size : Int)) : Int).toNat)) else (none)) else (none)) else (none)) else (some (⟨#[]⟩ : ByteArray))) = some r := H
  have A5 := Ak A50
  clear A50
  by_cases c6 : t829 = true
  ·subst c6
   have H1 : (if 0 ≤ (mn a1_0 (a0.size : Int)) then (if (mn a1_0 (a0.size : Int)) ≤ (mn a1_1 (a0.size : Int)) then (if (mn a1_1 (a0.size : Int)) ≤ (a0.size : Int) then (some (a0.extract ((mn a1_0 (a0.size : Int)) : Int).toNat ((mn a1_1 (a0.size : Int)) : Int).toNat)) else (none)) else (none)) else (none)) = some r := by rw [if_pos rfl] at H; exact H
   clear H
   have H := H1
   clear H1
   obtain ⟨ji7, hji7⟩ : ∃ j_ : Int, (mn a1_0 (a0.size : Int)) = j_ := ⟨_, rfl⟩
   replace H : (if 0 ≤ (ji7) then (if (ji7) ≤ (mn a1_1 (a0.size : Int)) then (if (mn a1_1 (a0.size : Int)) ≤ (a0.size : Int) then (some (a0.extract ((ji7) : Int).toNat ((mn a1_1 (a0.size : Int)) : Int).toNat)) else (none)) else (none)) else (none)) = some r := by first | (rw [hji7] at H; exact H) | (simp only [hji7] at H ⊢; exact H)
   (try rw [hji7] at A3)
   (try rw [hji7] at A5)
   have hji7_ : (if (a0.size : Int) < a1_0 then (a0.size : Int) else a1_0) = ji7 := hji7
   obtain ⟨ji8, hji8⟩ : ∃ j_ : Int, (mn a1_1 (a0.size : Int)) = j_ := ⟨_, rfl⟩
   replace H : (if 0 ≤ (ji7) then (if (ji7) ≤ (ji8) then (if (ji8) ≤ (a0.size : Int) then (some (a0.extract ((ji7) : Int).toNat ((ji8) : Int).toNat)) else (none)) else (none)) else (none)) = some r := by first | (rw [hji8] at H; exact H) | (simp only [hji8] at H ⊢; exact H)
   (try rw [hji8] at A3)
   (try rw [hji8] at A5)
   have hji8_ : (if (a0.size : Int) < a1_1 then (a0.size : Int) else a1_1) = ji8 := hji8
   by_cases c9 : 0 ≤ (ji7)
   ·rw [if_pos c9] at H
    have c9b0 := eq_true c9
    have c9b1 : decide (0 ≤ (ji7)) = true := decide_eq_true c9
    clear c9
    by_cases c10 : (ji7) ≤ (ji8)
    ·rw [if_pos c10] at H
     have c10b0 := eq_true c10
     have c10b1 : decide ((ji7) ≤ (ji8)) = true := decide_eq_true c10
     clear c10
     by_cases c11 : (ji8) ≤ (a0.size : Int)
     ·rw [if_pos c11] at H
      have c11b0 := eq_true c11
      have c11b1 : decide ((ji8) ≤ (a0.size : Int)) = true := decide_eq_true c11
      clear c11
      obtain rfl := Option.some.inj H
      go_enter Try.func33, Try.ntmps33
      go_wp2_with (first | ((with_reducible refine gate_dst (N := 3) rfl ?_); refine box_event ?hg (N := 3) ?hd (cs := #[.int .i64 a1_0, .int .i64 a1_1]) (t := 42) ?hr ?_; (case hd => rfl); (case hg => rfl); (case hr => first | (go_simp; done) | (go_simp; rfl)); intro gb827 hg w12 hbox hb; have n0_ := Ak (below_step (by repeat (first | (with_reducible first | exact HB.out | apply below_alloc | apply pw_below_drewN | apply below_drew1) | exact HB.out)) hb); have n1_ := Ak (hbox); have n2_ := Ak ((by rw [hg]; exact (below_size (by repeat (first | (with_reducible first | exact HB.out | apply below_alloc | apply pw_below_drewN | apply below_drew1) | exact HB.out))) : w.heap.size ≤ gb827)); have n3_ := Ak ((by rw [hg]; exact (below_size (by repeat (first | (with_reducible first | exact HB.out | apply below_alloc | apply pw_below_drewN | apply below_drew1) | exact HB.out))) : w.heap.size ≤ gb827)); clear HB; have HB := n0_; have BK827 := n1_; have GW827 := n2_; have GE827 := n3_; clear n0_ n1_ n2_ n3_; clear hb hbox hg) | ((with_reducible refine gate_callee (f := 57) rfl ?_); refine goesL_ (some 6) rfl rfl Try.func57 (by kernel_rfl) rfl #[.string a0] rfl (by (try simp only [List.map_toArray, List.map_cons, List.map_nil]); first | done | rfl | (simp only [List.length_drop, List.length_take]; rfl)) ?_; (with_reducible refine (impl_TextOk.calls k a0 true _ A3.out).mono ?_); rintro e w' ⟨rfl, ⟨nd, rfl⟩⟩; refine ⟨_, rfl, ?_⟩; have hcz13_0 : w12.cell? ⟨gb827, 0, none⟩ = some (.int .i64 a1_0) := (blk_cell BK827.out 0).trans rfl; have hcz13_1 : w12.cell? ⟨gb827, 1, none⟩ = some (.int .i64 a1_1) := (blk_cell BK827.out 1).trans rfl; have hfz13_0 := blk_frozen BK827.out 0; have hfz13_1 := blk_frozen BK827.out 1) | (go_at_call 59; (with_reducible refine (impl_SpanOk.calls a1_0 a1_1 true _ A5.out).mono ?_); rintro e w14 ⟨rfl, hb⟩; have n0_ := Ak (blk_below (g := gb827) (o := .cells #[.int .i64 a1_0, .int .i64 a1_1] 42 (0, 0)) (by (with_reducible repeat (first | refine blk_drewN ?_ _ | refine blk_drew ?_ | refine blk_alloc ?_ _)); exact BK827.out) hb); have n1_ := Ak (below_step (by repeat (first | (with_reducible first | exact HB.out | apply below_alloc | apply pw_below_drewN | apply below_drew1 | refine below_set ?_ GE827.out) | exact HB.out)) hb); clear BK827; clear HB; have BK827 := n0_; have HB := n1_; clear n0_ n1_; (try clear hb); (try clear hb2); (try clear hk); (try clear hi); have hcz15_0 : w14.cell? ⟨gb827, 0, none⟩ = some (.int .i64 a1_0) := (blk_cell BK827.out 0).trans rfl; have hcz15_1 : w14.cell? ⟨gb827, 1, none⟩ = some (.int .i64 a1_1) := (blk_cell BK827.out 1).trans rfl; have hfz15_0 := blk_frozen BK827.out 0; have hfz15_1 := blk_frozen BK827.out 1))
      go_ret
      exact ⟨by first | rfl | (simp [errW_none, errW_some] <;> rfl) | (simp only [← hji7, ← hji8]; first | rfl | (simp [errW_none, errW_some] <;> rfl)) | (simp [*, errW_none, errW_some] <;> rfl), by repeat (first | (with_reducible first | exact HB.out | apply below_alloc | apply pw_below_drewN | apply below_drew1 | refine below_set ?_ GE827.out) | exact HB.out)⟩
     ·rw [if_neg c11] at H
      exact absurd H (by simp)
    ·rw [if_neg c10] at H
     exact absurd H (by simp)
   ·rw [if_neg c9] at H
    exact absurd H (by simp)
  ·replace c6 := Bool.eq_false_iff.mpr c6
   subst c6
   have H1 : (some (⟨#[]⟩ : ByteArray)) = some r := by rw [if_neg (show ¬ (false = true) by decide)] at H; exact H
   clear H
   have H := H1
   clear H1
   obtain rfl := Option.some.inj H
   go_enter Try.func33, Try.ntmps33
   go_wp2_with (first | ((with_reducible refine gate_dst (N := 3) rfl ?_); refine box_event ?hg (N := 3) ?hd (cs := #[.int .i64 a1_0, .int .i64 a1_1]) (t := 42) ?hr ?_; (case hd => rfl); (case hg => rfl); (case hr => first | (go_simp; done) | (go_simp; rfl)); intro gb827 hg w16 hbox hb; have n0_ := Ak (below_step (by repeat (first | (with_reducible first | exact HB.out | apply below_alloc | apply pw_below_drewN | apply below_drew1) | exact HB.out)) hb); have n1_ := Ak (hbox); have n2_ := Ak ((by rw [hg]; exact (below_size (by repeat (first | (with_reducible first | exact HB.out | apply below_alloc | apply pw_below_drewN | apply below_drew1) | exact HB.out))) : w.heap.size ≤ gb827)); have n3_ := Ak ((by rw [hg]; exact (below_size (by repeat (first | (with_reducible first | exact HB.out | apply below_alloc | apply pw_below_drewN | apply below_drew1) | exact HB.out))) : w.heap.size ≤ gb827)); clear HB; have HB := n0_; have BK827 := n1_; have GW827 := n2_; have GE827 := n3_; clear n0_ n1_ n2_ n3_; clear hb hbox hg) | ((with_reducible refine gate_callee (f := 57) rfl ?_); refine goesL_ (some 6) rfl rfl Try.func57 (by kernel_rfl) rfl #[.string a0] rfl (by (try simp only [List.map_toArray, List.map_cons, List.map_nil]); first | done | rfl | (simp only [List.length_drop, List.length_take]; rfl)) ?_; (with_reducible refine (impl_TextOk.calls k a0 true _ A3.out).mono ?_); rintro e w' ⟨rfl, ⟨nd, rfl⟩⟩; refine ⟨_, rfl, ?_⟩; have hcz17_0 : w16.cell? ⟨gb827, 0, none⟩ = some (.int .i64 a1_0) := (blk_cell BK827.out 0).trans rfl; have hcz17_1 : w16.cell? ⟨gb827, 1, none⟩ = some (.int .i64 a1_1) := (blk_cell BK827.out 1).trans rfl; have hfz17_0 := blk_frozen BK827.out 0; have hfz17_1 := blk_frozen BK827.out 1) | (go_at_call 59; (with_reducible refine (impl_SpanOk.calls a1_0 a1_1 false _ A5.out).mono ?_); rintro e w18 ⟨rfl, hb⟩; have n0_ := Ak (blk_below (g := gb827) (o := .cells #[.int .i64 a1_0, .int .i64 a1_1] 42 (0, 0)) (by (with_reducible repeat (first | refine blk_drewN ?_ _ | refine blk_drew ?_ | refine blk_alloc ?_ _)); exact BK827.out) hb); have n1_ := Ak (below_step (by repeat (first | (with_reducible first | exact HB.out | apply below_alloc | apply pw_below_drewN | apply below_drew1 | refine below_set ?_ GE827.out) | exact HB.out)) hb); clear BK827; clear HB; have BK827 := n0_; have HB := n1_; clear n0_ n1_; (try clear hb); (try clear hb2); (try clear hk); (try clear hi)))
   go_ret
   exact ⟨by first | rfl | (simp [errW_none, errW_some] <;> rfl) | (simp [*, errW_none, errW_some] <;> rfl), by repeat (first | (with_reducible first | exact HB.out | apply below_alloc | apply pw_below_drewN | apply below_drew1 | refine below_set ?_ GE827.out) | exact HB.out)⟩
 ·replace c4 := Bool.eq_false_iff.mpr c4
  subst c4
  have H1 : (some (⟨#[]⟩ : ByteArray)) = some r := by rw [if_neg (show ¬ (false = true) by decide)] at H; exact H
  clear H
  have H := H1
  clear H1
  obtain rfl := Option.some.inj H
  go_enter Try.func33, Try.ntmps33
  go_wp2_with (first | ((with_reducible refine gate_dst (N := 3) rfl ?_); refine box_event ?hg (N := 3) ?hd (cs := #[.int .i64 a1_0, .int .i64 a1_1]) (t := 42) ?hr ?_; (case hd => rfl); (case hg => rfl); (case hr => first | (go_simp; done) | (go_simp; rfl)); intro gb827 hg w19 hbox hb; have n0_ := Ak (below_step (by repeat (first | (with_reducible first | exact HB.out | apply below_alloc | apply pw_below_drewN | apply below_drew1) | exact HB.out)) hb); have n1_ := Ak (hbox); have n2_ := Ak ((by rw [hg]; exact (below_size (by repeat (first | (with_reducible first | exact HB.out | apply below_alloc | apply pw_below_drewN | apply below_drew1) | exact HB.out))) : w.heap.size ≤ gb827)); have n3_ := Ak ((by rw [hg]; exact (below_size (by repeat (first | (with_reducible first | exact HB.out | apply below_alloc | apply pw_below_drewN | apply below_drew1) | exact HB.out))) : w.heap.size ≤ gb827)); clear HB; have HB := n0_; have BK827 := n1_; have GW827 := n2_; have GE827 := n3_; clear n0_ n1_ n2_ n3_; clear hb hbox hg) | ((with_reducible refine gate_callee (f := 57) rfl ?_); refine goesL_ (some 6) rfl rfl Try.func57 (by kernel_rfl) rfl #[.string a0] rfl (by (try simp only [List.map_toArray, List.map_cons, List.map_nil]); first | done | rfl | (simp only [List.length_drop, List.length_take]; rfl)) ?_; (with_reducible refine (impl_TextOk.calls k a0 false _ A3.out).mono ?_); rintro e w' ⟨rfl, ⟨nd, rfl⟩⟩; refine ⟨_, rfl, ?_⟩))
  go_ret
  exact ⟨by first | rfl | (simp [errW_none, errW_some] <;> rfl) | (simp [*, errW_none, errW_some] <;> rfl), by repeat (first | (with_reducible first | exact HB.out | apply below_alloc | apply pw_below_drewN | apply below_drew1 | refine below_set ?_ GE827.out) | exact HB.out)⟩
end Go.Proofs.Ytmekkapacbdbeaa.P
namespace Go.Proofs.Ytmekkapacbdbeaa.P
open Go.RowKit Go.Proofs.YtmekkapacbdbeaaW.PrintWords Go.Proofs.YtmekkapacbdbeaaW.PrintLast Go.Proofs.YtmekkapacbdbeaaW.PrintMore
attribute [local go_sem] max2_int min2_int max_two min_two max_three min_three max_four min_four   
set_option linter.unusedVariables false
set_option linter.unusedSimpArgs false
def impl_StoreRead.f (k : Nat) (l0_0 : List ByteArray) (l0_1 : List ByteArray) (l0_2 : List Int) (l0_3 : List Int) (l0_4 : List Int) (a1 : Int) (a2_0 : Int) (a2_1 : Int) : Option (ByteArray × Bool) := (impl_StoreOk.f k l0_0 l0_1 l0_2 l0_3 l0_4).bind fun t832 => (if t832 = true then (if a1 < 0 then (some ((⟨#[]⟩ : ByteArray), false)) else (if a1 ≥ 3 then (some ((⟨#[]⟩ : ByteArray), false)) else ((impl_SpanOk.f a2_0 a2_1).bind fun t833 => (if t833 = true then (if 0 ≤ a1 then (if a1 < (l0_0.length : Int) then ((impl_TextRead.f k (rdOf ByteArray.empty l0_0 a1) a2_0 a2_1).bind fun t835 => (some (t835, true))) else (none)) else (none)) else (some ((⟨#[]⟩ : ByteArray), false)))))) else (some ((⟨#[]⟩ : ByteArray), false)))
def impl_StoreRead.T3 : Bool × List (List Nat × List Nat) := (true, [([], []), ([0], [0]), ([], []), ([1, 2], [1, 2]), ([3], [3]), ([], []), ([4, 5], [4, 5]), ([6, 6, 0, 1, 2, 3, 4, 5, 6], [6]), ([7, 0, 1, 2, 3, 4, 5, 6, 7], [])])
def impl_StoreRead.B3 : List Nat := [0, 1, 0, 7, 15, 0, 63, 127, 255]
theorem impl_StoreRead.tab3 : rtab .any (opsOf Try.f25 3) = impl_StoreRead.T3 := by kernel_rfl
theorem impl_StoreRead.bits3 : waitsOk impl_StoreRead.T3.2 impl_StoreRead.B3 = true := by kernel_rfl
set_option maxHeartbeats 8000000 in
set_option maxRecDepth 100000 in
theorem impl_StoreRead.calls (k : Nat) (A0_0 : Option Addr) (c0_0 : Nat) (l0_0 : List ByteArray) (A0_1 : Option Addr) (c0_1 : Nat) (l0_1 : List ByteArray) (A0_2 : Option Addr) (c0_2 : Nat) (l0_2 : List Int) (A0_3 : Option Addr) (c0_3 : Nat) (l0_3 : List Int) (A0_4 : Option Addr) (c0_4 : Nat) (l0_4 : List Int) (a1 : Int) (a2_0 : Int) (a2_1 : Int) (r1 : ByteArray) (r2 : Bool) (w : World) (hr0_0 : Kd.C Kd.string w A0_0 l0_0.length l0_0) (hc0_0 : l0_0.length ≤ c0_0) (hr0_1 : Kd.C Kd.string w A0_1 l0_1.length l0_1) (hc0_1 : l0_1.length ≤ c0_1) (hr0_2 : Kd.C (Kd.int .i64) w A0_2 l0_2.length l0_2) (hc0_2 : l0_2.length ≤ c0_2) (hr0_3 : Kd.C (Kd.int .i64) w A0_3 l0_3.length l0_3) (hc0_3 : l0_3.length ≤ c0_3) (hr0_4 : Kd.C (Kd.int .i64) w A0_4 l0_4.length l0_4) (hc0_4 : l0_4.length ≤ c0_4) (h : impl_StoreRead.f k l0_0 l0_1 l0_2 l0_3 l0_4 a1 a2_0 a2_1 = some (r1, r2)) :
  Calls Try.prog 25 #[.agg #[.slice A0_0 l0_0.length c0_0, .slice A0_1 l0_1.length c0_1, .slice A0_2 l0_2.length c0_2, .slice A0_3 l0_3.length c0_3, .slice A0_4 l0_4.length c0_4], .int .i64 a1, .agg #[.int .i64 a2_0, .int .i64 a2_1]] w fun e w' => e = .returned (.tuple #[.string r1, .bool r2]) ∧ Below w.heap.size w w' := by
 have hu26 := Try.underlying26
 have hu42 := Try.underlying42
 have HR0_0 := Ak hr0_0
 have HC0_0 := Ak hc0_0
 clear hr0_0 hc0_0
 have HR0_1 := Ak hr0_1
 have HC0_1 := Ak hc0_1
 clear hr0_1 hc0_1
 have HR0_2 := Ak hr0_2
 have HC0_2 := Ak hc0_2
 clear hr0_2 hc0_2
 have HR0_3 := Ak hr0_3
 have HC0_3 := Ak hc0_3
 clear hr0_3 hc0_3
 have HR0_4 := Ak hr0_4
 have HC0_4 := Ak hc0_4
 clear hr0_4 hc0_4
 have HB := Ak (Below.refl w.heap.size w)
 have H : ((impl_StoreOk.f k l0_0 l0_1 l0_2 l0_3 l0_4).bind fun t832 => (if t832 = true then (if a1 < 0 then (some ((⟨#[]⟩ : ByteArray), false)) else (if a1 ≥ 3 then (some ((⟨#[]⟩ : ByteArray), false)) else ((impl_SpanOk.f a2_0 a2_1).bind fun t833 => (if t833 = true then (if 0 ≤ a1 then (if a1 < (l0_0.length : Int) then ((impl_TextRead.f k (rdOf ByteArray.empty l0_0 a1) a2_0 a2_1).bind fun t835 => (some (t835, true))) else (none)) else (none)) else (some ((⟨#[]⟩ : ByteArray), false)))))) else (some ((⟨#[]⟩ : ByteArray), false)))) = some (r1, r2) := h
 clear h
 replace H := Option.bind_eq_some_iff.mp H
 obtain ⟨t832, A40, H⟩ := H
 replace H : (if t832 = true then (if a1 < 0 then (some ((⟨#[]⟩ : ByteArray), false)) else (if a1 ≥ 3 then (some ((⟨#[]⟩ : ByteArray), false)) else ((impl_SpanOk.f a2_0 a2_1).bind fun t833 => (if t833 = true then (if 0 ≤ a1 then (if a1 < (l0_0.length : Int) then ((impl_TextRead.f k (rdOf ByteArray.empty l0_0 a1) a2_0 a2_1).bind fun t835 => (some (t835, true))) else (none)) else (none)) else (some ((⟨#[]⟩ : ByteArray), false)))))) else (some ((⟨#[]⟩ : ByteArray), false))) = some (r1, r2) := H
 have A4 := Ak A40
 clear A40
 by_cases c5 : t832 = true
 ·subst c5
  have H1 : (if a1 < 0 then (some ((⟨#[]⟩ : ByteArray), false)) else (if a1 ≥ 3 then (some ((⟨#[]⟩ : ByteArray), false)) else ((impl_SpanOk.f a2_0 a2_1).bind fun t833 => (if t833 = true then (if 0 ≤ a1 then (if a1 < (l0_0.length : Int) then ((impl_TextRead.f k (rdOf ByteArray.empty l0_0 a1) a2_0 a2_1).bind fun t835 => (some (t835, true))) else (none)) else (none)) else (some ((⟨#[]⟩ : ByteArray), false)))))) = some (r1, r2) := by rw [if_pos rfl] at H; exact H
  clear H
  have H := H1
  clear H1
  by_cases c6 : a1 < 0
  ·rw [if_pos c6] at H
   have c6b0 : decide (a1 < 0) = true := decide_eq_true c6
   clear c6
   simp only [Option.some.injEq, Prod.mk.injEq] at H
   obtain ⟨rfl, rfl⟩ := H
   go_enter Try.func25, Try.ntmps25
   go_wp2_with (first | ((with_reducible refine gate_dst (N := 3) rfl ?_); refine box_event ?hg (N := 3) ?hd (cs := #[.slice A0_0 l0_0.length c0_0, .slice A0_1 l0_1.length c0_1, .slice A0_2 l0_2.length c0_2, .slice A0_3 l0_3.length c0_3, .slice A0_4 l0_4.length c0_4]) (t := 26) ?hr ?_; (case hd => rfl); (case hg => rfl); (case hr => first | (go_simp; done) | (go_simp; rfl)); intro gb830 hg w7 hbox hb; have n0_ := Ak (below_step (by repeat (first | (with_reducible first | exact HB.out | apply below_alloc | apply pw_below_drewN | apply below_drew1) | exact HB.out)) hb); have n1_ := Ak (hbox); have n2_ := Ak ((by rw [hg]; exact (below_size (by repeat (first | (with_reducible first | exact HB.out | apply below_alloc | apply pw_below_drewN | apply below_drew1) | exact HB.out))) : w.heap.size ≤ gb830)); have n3_ := Ak ((by rw [hg]; exact (below_size (by repeat (first | (with_reducible first | exact HB.out | apply below_alloc | apply pw_below_drewN | apply below_drew1) | exact HB.out))) : w.heap.size ≤ gb830)); clear HB; have HB := n0_; have BK830 := n1_; have GW830 := n2_; have GE830 := n3_; clear n0_ n1_ n2_ n3_; clear hb hbox hg) | ((with_reducible refine gate_dst (N := 5) rfl ?_); refine box_event ?hg (N := 5) ?hd (cs := #[.int .i64 a2_0, .int .i64 a2_1]) (t := 42) ?hr ?_; (case hd => rfl); (case hg => rfl); (case hr => first | (go_simp; done) | (go_simp; rfl)); intro gb831 hg w8 hbox hb; have n0_ := Ak (blk_below (g := gb830) (o := .cells #[.slice A0_0 l0_0.length c0_0, .slice A0_1 l0_1.length c0_1, .slice A0_2 l0_2.length c0_2, .slice A0_3 l0_3.length c0_3, .slice A0_4 l0_4.length c0_4] 26 (0, 0)) (by (with_reducible repeat (first | refine blk_drewN ?_ _ | refine blk_drew ?_ | refine blk_alloc ?_ _)); exact BK830.out) hb); have n1_ := Ak (below_step (by repeat (first | (with_reducible first | exact HB.out | apply below_alloc | apply pw_below_drewN | apply below_drew1 | refine below_set ?_ GE830.out) | exact HB.out)) hb); have n2_ := Ak (hbox); have n3_ := Ak ((by rw [hg]; exact (below_size (by repeat (first | (with_reducible first | exact HB.out | apply below_alloc | apply pw_below_drewN | apply below_drew1 | refine below_set ?_ GE830.out) | exact HB.out))) : w.heap.size ≤ gb831)); have n4_ := Ak ((by rw [hg]; exact (below_size (by repeat (first | (with_reducible first | exact HB.out | apply below_alloc | apply pw_below_drewN | apply below_drew1 | refine below_set ?_ GE830.out) | exact HB.out))) : w.heap.size ≤ gb831)); have n5_ := Ak ((by rw [hg]; exact Nat.ne_of_lt (blk_lt (g := gb830) (o := .cells #[.slice A0_0 l0_0.length c0_0, .slice A0_1 l0_1.length c0_1, .slice A0_2 l0_2.length c0_2, .slice A0_3 l0_3.length c0_3, .slice A0_4 l0_4.length c0_4] 26 (0, 0)) (by (with_reducible repeat (first | refine blk_drewN ?_ _ | refine blk_drew ?_ | refine blk_alloc ?_ _)); exact BK830.out)) : gb830 ≠ gb831)); have n6_ := Ak ((by rw [hg]; exact Nat.ne_of_gt (blk_lt (g := gb830) (o := .cells #[.slice A0_0 l0_0.length c0_0, .slice A0_1 l0_1.length c0_1, .slice A0_2 l0_2.length c0_2, .slice A0_3 l0_3.length c0_3, .slice A0_4 l0_4.length c0_4] 26 (0, 0)) (by (with_reducible repeat (first | refine blk_drewN ?_ _ | refine blk_drew ?_ | refine blk_alloc ?_ _)); exact BK830.out)) : gb831 ≠ gb830)); clear BK830; clear HB; have BK830 := n0_; have HB := n1_; have BK831 := n2_; have GW831 := n3_; have GE831 := n4_; have NB830_831 := n5_; have NB831_830 := n6_; clear n0_ n1_ n2_ n3_ n4_ n5_ n6_; clear hb hbox hg; have hnb9 := NB830_831.out; have hnc9 := NB831_830.out; have hcz10_0 : w8.cell? ⟨gb830, 0, none⟩ = some (.slice A0_0 l0_0.length c0_0) := (blk_cell BK830.out 0).trans rfl; have hcz10_1 : w8.cell? ⟨gb830, 1, none⟩ = some (.slice A0_1 l0_1.length c0_1) := (blk_cell BK830.out 1).trans rfl; have hcz10_2 : w8.cell? ⟨gb830, 2, none⟩ = some (.slice A0_2 l0_2.length c0_2) := (blk_cell BK830.out 2).trans rfl; have hcz10_3 : w8.cell? ⟨gb830, 3, none⟩ = some (.slice A0_3 l0_3.length c0_3) := (blk_cell BK830.out 3).trans rfl; have hcz10_4 : w8.cell? ⟨gb830, 4, none⟩ = some (.slice A0_4 l0_4.length c0_4) := (blk_cell BK830.out 4).trans rfl; have hfz10_0 := blk_frozen BK830.out 0; have hfz10_1 := blk_frozen BK830.out 1; have hfz10_2 := blk_frozen BK830.out 2; have hfz10_3 := blk_frozen BK830.out 3; have hfz10_4 := blk_frozen BK830.out 4) | ((with_reducible refine gate_callee (f := 23) rfl ?_); refine goesL_ (some 9) rfl rfl Try.func23 (by kernel_rfl) rfl #[.agg #[.slice A0_0 l0_0.length c0_0, .slice A0_1 l0_1.length c0_1, .slice A0_2 l0_2.length c0_2, .slice A0_3 l0_3.length c0_3, .slice A0_4 l0_4.length c0_4]] rfl (by (try simp only [List.map_toArray, List.map_cons, List.map_nil]); first | done | rfl | (simp only [List.length_drop, List.length_take]; rfl)) ?_; (with_reducible refine (impl_StoreOk.calls k _ _ l0_0 _ _ l0_1 _ _ l0_2 _ _ l0_3 _ _ l0_4 true _ ?side1 ?side2 ?side3 ?side4 ?side5 ?side6 ?side7 ?side8 ?side9 ?side10 A4.out).mono ?_); (case side1 => repeat (first | exact (Kd.C_below HR0_0.out HB.out) | (with_reducible refine Kd.C_alloc ?_ _) | (with_reducible refine Kd.C_drewN ?_ _) | (with_reducible refine Kd.C_drew ?_))); (case side2 => exact HC0_0.out); (case side3 => repeat (first | exact (Kd.C_below HR0_1.out HB.out) | (with_reducible refine Kd.C_alloc ?_ _) | (with_reducible refine Kd.C_drewN ?_ _) | (with_reducible refine Kd.C_drew ?_))); (case side4 => exact HC0_1.out); (case side5 => repeat (first | exact (Kd.C_below HR0_2.out HB.out) | (with_reducible refine Kd.C_alloc ?_ _) | (with_reducible refine Kd.C_drewN ?_ _) | (with_reducible refine Kd.C_drew ?_))); (case side6 => exact HC0_2.out); (case side7 => repeat (first | exact (Kd.C_below HR0_3.out HB.out) | (with_reducible refine Kd.C_alloc ?_ _) | (with_reducible refine Kd.C_drewN ?_ _) | (with_reducible refine Kd.C_drew ?_))); (case side8 => exact HC0_3.out); (case side9 => repeat (first | exact (Kd.C_below HR0_4.out HB.out) | (with_reducible refine Kd.C_alloc ?_ _) | (with_reducible refine Kd.C_drewN ?_ _) | (with_reducible refine Kd.C_drew ?_))); (case side10 => exact HC0_4.out); rintro e w11 ⟨rfl, hb⟩; refine ⟨_, rfl, ?_⟩; have n0_ := Ak (blk_below (g := gb830) (o := .cells #[.slice A0_0 l0_0.length c0_0, .slice A0_1 l0_1.length c0_1, .slice A0_2 l0_2.length c0_2, .slice A0_3 l0_3.length c0_3, .slice A0_4 l0_4.length c0_4] 26 (0, 0)) (by (with_reducible repeat (first | refine blk_drewN ?_ _ | refine blk_drew ?_ | refine blk_alloc ?_ _)); exact BK830.out) hb); have n1_ := Ak (blk_below (g := gb831) (o := .cells #[.int .i64 a2_0, .int .i64 a2_1] 42 (0, 0)) (by (with_reducible repeat (first | refine blk_drewN ?_ _ | refine blk_drew ?_ | refine blk_alloc ?_ _)); exact BK831.out) hb); have n2_ := Ak (below_step (by repeat (first | (with_reducible first | exact HB.out | apply below_alloc | apply pw_below_drewN | apply below_drew1 | refine below_set ?_ GE830.out | refine below_set ?_ GE831.out) | exact HB.out)) hb); clear BK830; clear BK831; clear HB; have BK830 := n0_; have BK831 := n1_; have HB := n2_; clear n0_ n1_ n2_; (try clear hb); (try clear hb2); (try clear hk); (try clear hi)))
   go_ret2
   exact ⟨by first | rfl | (simp [errW_none, errW_some] <;> rfl) | (simp [*, errW_none, errW_some] <;> rfl), by repeat (first | (with_reducible first | exact HB.out | apply below_alloc | apply pw_below_drewN | apply below_drew1 | refine below_set ?_ GE830.out | refine below_set ?_ GE831.out) | exact HB.out)⟩
  ·rw [if_neg c6] at H
   have c6b0 : decide (a1 < 0) = false := decide_eq_false c6
   clear c6
   by_cases c12 : a1 ≥ 3
   ·rw [if_pos c12] at H
    have c12b0 : decide (3 ≤ a1) = true := decide_eq_true c12
    clear c12
    simp only [Option.some.injEq, Prod.mk.injEq] at H
    obtain ⟨rfl, rfl⟩ := H
    go_enter Try.func25, Try.ntmps25
    go_wp2_with (first | ((with_reducible refine gate_dst (N := 3) rfl ?_); refine box_event ?hg (N := 3) ?hd (cs := #[.slice A0_0 l0_0.length c0_0, .slice A0_1 l0_1.length c0_1, .slice A0_2 l0_2.length c0_2, .slice A0_3 l0_3.length c0_3, .slice A0_4 l0_4.length c0_4]) (t := 26) ?hr ?_; (case hd => rfl); (case hg => rfl); (case hr => first | (go_simp; done) | (go_simp; rfl)); intro gb830 hg w13 hbox hb; have n0_ := Ak (below_step (by repeat (first | (with_reducible first | exact HB.out | apply below_alloc | apply pw_below_drewN | apply below_drew1) | exact HB.out)) hb); have n1_ := Ak (hbox); have n2_ := Ak ((by rw [hg]; exact (below_size (by repeat (first | (with_reducible first | exact HB.out | apply below_alloc | apply pw_below_drewN | apply below_drew1) | exact HB.out))) : w.heap.size ≤ gb830)); have n3_ := Ak ((by rw [hg]; exact (below_size (by repeat (first | (with_reducible first | exact HB.out | apply below_alloc | apply pw_below_drewN | apply below_drew1) | exact HB.out))) : w.heap.size ≤ gb830)); clear HB; have HB := n0_; have BK830 := n1_; have GW830 := n2_; have GE830 := n3_; clear n0_ n1_ n2_ n3_; clear hb hbox hg) | ((with_reducible refine gate_dst (N := 5) rfl ?_); refine box_event ?hg (N := 5) ?hd (cs := #[.int .i64 a2_0, .int .i64 a2_1]) (t := 42) ?hr ?_; (case hd => rfl); (case hg => rfl); (case hr => first | (go_simp; done) | (go_simp; rfl)); intro gb831 hg w14 hbox hb; have n0_ := Ak (blk_below (g := gb830) (o := .cells #[.slice A0_0 l0_0.length c0_0, .slice A0_1 l0_1.length c0_1, .slice A0_2 l0_2.length c0_2, .slice A0_3 l0_3.length c0_3, .slice A0_4 l0_4.length c0_4] 26 (0, 0)) (by (with_reducible repeat (first | refine blk_drewN ?_ _ | refine blk_drew ?_ | refine blk_alloc ?_ _)); exact BK830.out) hb); have n1_ := Ak (below_step (by repeat (first | (with_reducible first | exact HB.out | apply below_alloc | apply pw_below_drewN | apply below_drew1 | refine below_set ?_ GE830.out) | exact HB.out)) hb); have n2_ := Ak (hbox); have n3_ := Ak ((by rw [hg]; exact (below_size (by repeat (first | (with_reducible first | exact HB.out | apply below_alloc | apply pw_below_drewN | apply below_drew1 | refine below_set ?_ GE830.out) | exact HB.out))) : w.heap.size ≤ gb831)); have n4_ := Ak ((by rw [hg]; exact (below_size (by repeat (first | (with_reducible first | exact HB.out | apply below_alloc | apply pw_below_drewN | apply below_drew1 | refine below_set ?_ GE830.out) | exact HB.out))) : w.heap.size ≤ gb831)); have n5_ := Ak ((by rw [hg]; exact Nat.ne_of_lt (blk_lt (g := gb830) (o := .cells #[.slice A0_0 l0_0.length c0_0, .slice A0_1 l0_1.length c0_1, .slice A0_2 l0_2.length c0_2, .slice A0_3 l0_3.length c0_3, .slice A0_4 l0_4.length c0_4] 26 (0, 0)) (by (with_reducible repeat (first | refine blk_drewN ?_ _ | refine blk_drew ?_ | refine blk_alloc ?_ _)); exact BK830.out)) : gb830 ≠ gb831)); have n6_ := Ak ((by rw [hg]; exact Nat.ne_of_gt (blk_lt (g := gb830) (o := .cells #[.slice A0_0 l0_0.length c0_0, .slice A0_1 l0_1.length c0_1, .slice A0_2 l0_2.length c0_2, .slice A0_3 l0_3.length c0_3, .slice A0_4 l0_4.length c0_4] 26 (0, 0)) (by (with_reducible repeat (first | refine blk_drewN ?_ _ | refine blk_drew ?_ | refine blk_alloc ?_ _)); exact BK830.out)) : gb831 ≠ gb830)); clear BK830; clear HB; have BK830 := n0_; have HB := n1_; have BK831 := n2_; have GW831 := n3_; have GE831 := n4_; have NB830_831 := n5_; have NB831_830 := n6_; clear n0_ n1_ n2_ n3_ n4_ n5_ n6_; clear hb hbox hg; have hnb15 := NB830_831.out; have hnc15 := NB831_830.out; have hcz16_0 : w14.cell? ⟨gb830, 0, none⟩ = some (.slice A0_0 l0_0.length c0_0) := (blk_cell BK830.out 0).trans rfl; have hcz16_1 : w14.cell? ⟨gb830, 1, none⟩ = some (.slice A0_1 l0_1.length c0_1) := (blk_cell BK830.out 1).trans rfl; have hcz16_2 : w14.cell? ⟨gb830, 2, none⟩ = some (.slice A0_2 l0_2.length c0_2) := (blk_cell BK830.out 2).trans rfl; have hcz16_3 : w14.cell? ⟨gb830, 3, none⟩ = some (.slice A0_3 l0_3.length c0_3) := (blk_cell BK830.out 3).trans rfl; have hcz16_4 : w14.cell? ⟨gb830, 4, none⟩ = some (.slice A0_4 l0_4.length c0_4) := (blk_cell BK830.out 4).trans rfl; have hfz16_0 := blk_frozen BK830.out 0; have hfz16_1 := blk_frozen BK830.out 1; have hfz16_2 := blk_frozen BK830.out 2; have hfz16_3 := blk_frozen BK830.out 3; have hfz16_4 := blk_frozen BK830.out 4) | ((with_reducible refine gate_callee (f := 23) rfl ?_); refine goesL_ (some 9) rfl rfl Try.func23 (by kernel_rfl) rfl #[.agg #[.slice A0_0 l0_0.length c0_0, .slice A0_1 l0_1.length c0_1, .slice A0_2 l0_2.length c0_2, .slice A0_3 l0_3.length c0_3, .slice A0_4 l0_4.length c0_4]] rfl (by (try simp only [List.map_toArray, List.map_cons, List.map_nil]); first | done | rfl | (simp only [List.length_drop, List.length_take]; rfl)) ?_; (with_reducible refine (impl_StoreOk.calls k _ _ l0_0 _ _ l0_1 _ _ l0_2 _ _ l0_3 _ _ l0_4 true _ ?side1 ?side2 ?side3 ?side4 ?side5 ?side6 ?side7 ?side8 ?side9 ?side10 A4.out).mono ?_); (case side1 => repeat (first | exact (Kd.C_below HR0_0.out HB.out) | (with_reducible refine Kd.C_alloc ?_ _) | (with_reducible refine Kd.C_drewN ?_ _) | (with_reducible refine Kd.C_drew ?_))); (case side2 => exact HC0_0.out); (case side3 => repeat (first | exact (Kd.C_below HR0_1.out HB.out) | (with_reducible refine Kd.C_alloc ?_ _) | (with_reducible refine Kd.C_drewN ?_ _) | (with_reducible refine Kd.C_drew ?_))); (case side4 => exact HC0_1.out); (case side5 => repeat (first | exact (Kd.C_below HR0_2.out HB.out) | (with_reducible refine Kd.C_alloc ?_ _) | (with_reducible refine Kd.C_drewN ?_ _) | (with_reducible refine Kd.C_drew ?_))); (case side6 => exact HC0_2.out); (case side7 => repeat (first | exact (Kd.C_below HR0_3.out HB.out) | (with_reducible refine Kd.C_alloc ?_ _) | (with_reducible refine Kd.C_drewN ?_ _) | (with_reducible refine Kd.C_drew ?_))); (case side8 => exact HC0_3.out); (case side9 => repeat (first | exact (Kd.C_below HR0_4.out HB.out) | (with_reducible refine Kd.C_alloc ?_ _) | (with_reducible refine Kd.C_drewN ?_ _) | (with_reducible refine Kd.C_drew ?_))); (case side10 => exact HC0_4.out); rintro e w17 ⟨rfl, hb⟩; refine ⟨_, rfl, ?_⟩; have n0_ := Ak (blk_below (g := gb830) (o := .cells #[.slice A0_0 l0_0.length c0_0, .slice A0_1 l0_1.length c0_1, .slice A0_2 l0_2.length c0_2, .slice A0_3 l0_3.length c0_3, .slice A0_4 l0_4.length c0_4] 26 (0, 0)) (by (with_reducible repeat (first | refine blk_drewN ?_ _ | refine blk_drew ?_ | refine blk_alloc ?_ _)); exact BK830.out) hb); have n1_ := Ak (blk_below (g := gb831) (o := .cells #[.int .i64 a2_0, .int .i64 a2_1] 42 (0, 0)) (by (with_reducible repeat (first | refine blk_drewN ?_ _ | refine blk_drew ?_ | refine blk_alloc ?_ _)); exact BK831.out) hb); have n2_ := Ak (below_step (by repeat (first | (with_reducible first | exact HB.out | apply below_alloc | apply pw_below_drewN | apply below_drew1 | refine below_set ?_ GE830.out | refine below_set ?_ GE831.out) | exact HB.out)) hb); clear BK830; clear BK831; clear HB; have BK830 := n0_; have BK831 := n1_; have HB := n2_; clear n0_ n1_ n2_; (try clear hb); (try clear hb2); (try clear hk); (try clear hi)))
    go_ret2
    exact ⟨by first | rfl | (simp [errW_none, errW_some] <;> rfl) | (simp [*, errW_none, errW_some] <;> rfl), by repeat (first | (with_reducible first | exact HB.out | apply below_alloc | apply pw_below_drewN | apply below_drew1 | refine below_set ?_ GE830.out | refine below_set ?_ GE831.out) | exact HB.out)⟩
   ·rw [if_neg c12] at H
    have c12b0 : decide (3 ≤ a1) = false := decide_eq_false c12
    clear c12
    replace H := Option.bind_eq_some_iff.mp H
    obtain ⟨t833, A180, H⟩ := H
    replace H : (if t833 = true then (if 0 ≤ a1 then (if a1 < (l0_0.length : Int) then ((impl_TextRead.f k (rdOf ByteArray.empty l0_0 a1) a2_0 a2_1).bind fun t835 => (some (t835, true))) else (none)) else (none)) else (some ((⟨#[]⟩ : ByteArray), false))) = some (r1, r2) := H
    have A18 := Ak A180
    clear A180
    by_cases c19 : t833 = true
    ·subst c19
     have H1 : (if 0 ≤ a1 then (if a1 < (l0_0.length : Int) then ((impl_TextRead.f k (rdOf ByteArray.empty l0_0 a1) a2_0 a2_1).bind fun t835 => (some (t835, true))) else (none)) else (none)) = some (r1, r2) := by rw [if_pos rfl] at H; exact H
     clear H
     have H := H1
     clear H1
     by_cases c20 : 0 ≤ a1
     ·rw [if_pos c20] at H
      have c20b0 : decide (0 ≤ a1) = true := decide_eq_true c20
      clear c20
      by_cases c21 : a1 < (l0_0.length : Int)
      ·rw [if_pos c21] at H
       have c21b0 : decide (a1 < (l0_0.length : Int)) = true := decide_eq_true c21
       clear c21
       replace H := Option.bind_eq_some_iff.mp H
       obtain ⟨t835, A220, H⟩ := H
       replace H : (some (t835, true)) = some (r1, r2) := H
       have A22 := Ak A220
       clear A220
       simp only [Option.some.injEq, Prod.mk.injEq] at H
       obtain ⟨rfl, rfl⟩ := H
       go_enter Try.func25, Try.ntmps25
       try go_wp2_with (first | ((with_reducible refine gate_dst (N := 3) rfl ?_); refine box_event ?hg (N := 3) ?hd (cs := #[.slice A0_0 l0_0.length c0_0, .slice A0_1 l0_1.length c0_1, .slice A0_2 l0_2.length c0_2, .slice A0_3 l0_3.length c0_3, .slice A0_4 l0_4.length c0_4]) (t := 26) ?hr ?_; (case hd => rfl); (case hg => rfl); (case hr => first | (go_simp; done) | (go_simp; rfl)); intro gb830 hg w23 hbox hb; have n0_ := Ak (below_step (by repeat (first | (with_reducible first | exact HB.out | apply below_alloc | apply pw_below_drewN | apply below_drew1) | exact HB.out)) hb); have n1_ := Ak (hbox); have n2_ := Ak ((by rw [hg]; exact (below_size (by repeat (first | (with_reducible first | exact HB.out | apply below_alloc | apply pw_below_drewN | apply below_drew1) | exact HB.out))) : w.heap.size ≤ gb830)); have n3_ := Ak ((by rw [hg]; exact (below_size (by repeat (first | (with_reducible first | exact HB.out | apply below_alloc | apply pw_below_drewN | apply below_drew1) | exact HB.out))) : w.heap.size ≤ gb830)); clear HB; have HB := n0_; have BK830 := n1_; have GW830 := n2_; have GE830 := n3_; clear n0_ n1_ n2_ n3_; clear hb hbox hg) | ((with_reducible refine gate_dst (N := 5) rfl ?_); refine box_event ?hg (N := 5) ?hd (cs := #[.int .i64 a2_0, .int .i64 a2_1]) (t := 42) ?hr ?_; (case hd => rfl); (case hg => rfl); (case hr => first | (go_simp; done) | (go_simp; rfl)); intro gb831 hg w24 hbox hb; have n0_ := Ak (blk_below (g := gb830) (o := .cells #[.slice A0_0 l0_0.length c0_0, .slice A0_1 l0_1.length c0_1, .slice A0_2 l0_2.length c0_2, .slice A0_3 l0_3.length c0_3, .slice A0_4 l0_4.length c0_4] 26 (0, 0)) (by (with_reducible repeat (first | refine blk_drewN ?_ _ | refine blk_drew ?_ | refine blk_alloc ?_ _)); exact BK830.out) hb); have n1_ := Ak (below_step (by repeat (first | (with_reducible first | exact HB.out | apply below_alloc | apply pw_below_drewN | apply below_drew1 | refine below_set ?_ GE830.out) | exact HB.out)) hb); have n2_ := Ak (hbox); have n3_ := Ak ((by rw [hg]; exact (below_size (by repeat (first | (with_reducible first | exact HB.out | apply below_alloc | apply pw_below_drewN | apply below_drew1 | refine below_set ?_ GE830.out) | exact HB.out))) : w.heap.size ≤ gb831)); have n4_ := Ak ((by rw [hg]; exact (below_size (by repeat (first | (with_reducible first | exact HB.out | apply below_alloc | apply pw_below_drewN | apply below_drew1 | refine below_set ?_ GE830.out) | exact HB.out))) : w.heap.size ≤ gb831)); have n5_ := Ak ((by rw [hg]; exact Nat.ne_of_lt (blk_lt (g := gb830) (o := .cells #[.slice A0_0 l0_0.length c0_0, .slice A0_1 l0_1.length c0_1, .slice A0_2 l0_2.length c0_2, .slice A0_3 l0_3.length c0_3, .slice A0_4 l0_4.length c0_4] 26 (0, 0)) (by (with_reducible repeat (first | refine blk_drewN ?_ _ | refine blk_drew ?_ | refine blk_alloc ?_ _)); exact BK830.out)) : gb830 ≠ gb831)); have n6_ := Ak ((by rw [hg]; exact Nat.ne_of_gt (blk_lt (g := gb830) (o := .cells #[.slice A0_0 l0_0.length c0_0, .slice A0_1 l0_1.length c0_1, .slice A0_2 l0_2.length c0_2, .slice A0_3 l0_3.length c0_3, .slice A0_4 l0_4.length c0_4] 26 (0, 0)) (by (with_reducible repeat (first | refine blk_drewN ?_ _ | refine blk_drew ?_ | refine blk_alloc ?_ _)); exact BK830.out)) : gb831 ≠ gb830)); clear BK830; clear HB; have BK830 := n0_; have HB := n1_; have BK831 := n2_; have GW831 := n3_; have GE831 := n4_; have NB830_831 := n5_; have NB831_830 := n6_; clear n0_ n1_ n2_ n3_ n4_ n5_ n6_; clear hb hbox hg; have hnb25 := NB830_831.out; have hnc25 := NB831_830.out; have hcz26_0 : w24.cell? ⟨gb830, 0, none⟩ = some (.slice A0_0 l0_0.length c0_0) := (blk_cell BK830.out 0).trans rfl; have hcz26_1 : w24.cell? ⟨gb830, 1, none⟩ = some (.slice A0_1 l0_1.length c0_1) := (blk_cell BK830.out 1).trans rfl; have hcz26_2 : w24.cell? ⟨gb830, 2, none⟩ = some (.slice A0_2 l0_2.length c0_2) := (blk_cell BK830.out 2).trans rfl; have hcz26_3 : w24.cell? ⟨gb830, 3, none⟩ = some (.slice A0_3 l0_3.length c0_3) := (blk_cell BK830.out 3).trans rfl; have hcz26_4 : w24.cell? ⟨gb830, 4, none⟩ = some (.slice A0_4 l0_4.length c0_4) := (blk_cell BK830.out 4).trans rfl; have hfz26_0 := blk_frozen BK830.out 0; have hfz26_1 := blk_frozen BK830.out 1; have hfz26_2 := blk_frozen BK830.out 2; have hfz26_3 := blk_frozen BK830.out 3; have hfz26_4 := blk_frozen BK830.out 4) | ((with_reducible refine gate_callee (f := 23) rfl ?_); refine goesL_ (some 9) rfl rfl Try.func23 (by kernel_rfl) rfl #[.agg #[.slice A0_0 l0_0.length c0_0, .slice A0_1 l0_1.length c0_1, .slice A0_2 l0_2.length c0_2, .slice A0_3 l0_3.length c0_3, .slice A0_4 l0_4.length c0_4]] rfl (by (try simp only [List.map_toArray, List.map_cons, List.map_nil]); first | done | rfl | (simp only [List.length_drop, List.length_take]; rfl)) ?_; (with_reducible refine (impl_StoreOk.calls k _ _ l0_0 _ _ l0_1 _ _ l0_2 _ _ l0_3 _ _ l0_4 true _ ?side1 ?side2 ?side3 ?side4 ?side5 ?side6 ?side7 ?side8 ?side9 ?side10 A4.out).mono ?_); (case side1 => repeat (first | exact (Kd.C_below HR0_0.out HB.out) | (with_reducible refine Kd.C_alloc ?_ _) | (with_reducible refine Kd.C_drewN ?_ _) | (with_reducible refine Kd.C_drew ?_))); (case side2 => exact HC0_0.out); (case side3 => repeat (first | exact (Kd.C_below HR0_1.out HB.out) | (with_reducible refine Kd.C_alloc ?_ _) | (with_reducible refine Kd.C_drewN ?_ _) | (with_reducible refine Kd.C_drew ?_))); (case side4 => exact HC0_1.out); (case side5 => repeat (first | exact (Kd.C_below HR0_2.out HB.out) | (with_reducible refine Kd.C_alloc ?_ _) | (with_reducible refine Kd.C_drewN ?_ _) | (with_reducible refine Kd.C_drew ?_))); (case side6 => exact HC0_2.out); (case side7 => repeat (first | exact (Kd.C_below HR0_3.out HB.out) | (with_reducible refine Kd.C_alloc ?_ _) | (with_reducible refine Kd.C_drewN ?_ _) | (with_reducible refine Kd.C_drew ?_))); (case side8 => exact HC0_3.out); (case side9 => repeat (first | exact (Kd.C_below HR0_4.out HB.out) | (with_reducible refine Kd.C_alloc ?_ _) | (with_reducible refine Kd.C_drewN ?_ _) | (with_reducible refine Kd.C_drew ?_))); (case side10 => exact HC0_4.out); rintro e w27 ⟨rfl, hb⟩; refine ⟨_, rfl, ?_⟩; have n0_ := Ak (blk_below (g := gb830) (o := .cells #[.slice A0_0 l0_0.length c0_0, .slice A0_1 l0_1.length c0_1, .slice A0_2 l0_2.length c0_2, .slice A0_3 l0_3.length c0_3, .slice A0_4 l0_4.length c0_4] 26 (0, 0)) (by (with_reducible repeat (first | refine blk_drewN ?_ _ | refine blk_drew ?_ | refine blk_alloc ?_ _)); exact BK830.out) hb); have n1_ := Ak (blk_below (g := gb831) (o := .cells #[.int .i64 a2_0, .int .i64 a2_1] 42 (0, 0)) (by (with_reducible repeat (first | refine blk_drewN ?_ _ | refine blk_drew ?_ | refine blk_alloc ?_ _)); exact BK831.out) hb); have n2_ := Ak (below_step (by repeat (first | (with_reducible first | exact HB.out | apply below_alloc | apply pw_below_drewN | apply below_drew1 | refine below_set ?_ GE830.out | refine below_set ?_ GE831.out) | exact HB.out)) hb); clear BK830; clear BK831; clear HB; have BK830 := n0_; have BK831 := n1_; have HB := n2_; clear n0_ n1_ n2_; (try clear hb); (try clear hb2); (try clear hk); (try clear hi); have hcz28_0 : w27.cell? ⟨gb831, 0, none⟩ = some (.int .i64 a2_0) := (blk_cell BK831.out 0).trans rfl; have hcz28_1 : w27.cell? ⟨gb831, 1, none⟩ = some (.int .i64 a2_1) := (blk_cell BK831.out 1).trans rfl; have hfz28_0 := blk_frozen BK831.out 0; have hfz28_1 := blk_frozen BK831.out 1) | (go_at_call 59; (with_reducible refine (impl_SpanOk.calls a2_0 a2_1 true _ A18.out).mono ?_); rintro e w29 ⟨rfl, hb⟩; have n0_ := Ak (blk_below (g := gb830) (o := .cells #[.slice A0_0 l0_0.length c0_0, .slice A0_1 l0_1.length c0_1, .slice A0_2 l0_2.length c0_2, .slice A0_3 l0_3.length c0_3, .slice A0_4 l0_4.length c0_4] 26 (0, 0)) (by (with_reducible repeat (first | refine blk_drewN ?_ _ | refine blk_drew ?_ | refine blk_alloc ?_ _)); exact BK830.out) hb); have n1_ := Ak (blk_below (g := gb831) (o := .cells #[.int .i64 a2_0, .int .i64 a2_1] 42 (0, 0)) (by (with_reducible repeat (first | refine blk_drewN ?_ _ | refine blk_drew ?_ | refine blk_alloc ?_ _)); exact BK831.out) hb); have n2_ := Ak (below_step (by repeat (first | (with_reducible first | exact HB.out | apply below_alloc | apply pw_below_drewN | apply below_drew1 | refine below_set ?_ GE830.out | refine below_set ?_ GE831.out) | exact HB.out)) hb); clear BK830; clear BK831; clear HB; have BK830 := n0_; have BK831 := n1_; have HB := n2_; clear n0_ n1_ n2_; (try clear hb); (try clear hb2); (try clear hk); (try clear hi)))
       have n0_ := Ak (blk_drew BK830.out)
       have n1_ := Ak (blk_drew BK831.out)
       have n2_ := Ak (below_drew1 HB.out)
       clear BK830
       clear BK831
       clear HB
       have BK830 := n0_
       have BK831 := n1_
       have HB := n2_
       clear n0_ n1_ n2_
       have p834 : 0 ≤ (a1 : Int) := of_decide_eq_true (by first | (with_reducible assumption) | assumption)
       have q834 : a1 < (l0_0.length : Int) := of_decide_eq_true (by first | (with_reducible assumption) | assumption)
       obtain ⟨ad834, e834, hx834_0⟩ := Kd.at_string HR0_0.out a1 p834 q834
       have hw834_0 := hx834_0
       cases e834
       replace hx834_0 := (HB.out.cell (World.block_lt_of_cell? w _ hx834_0)).trans hx834_0
       replace p834 := eq_true p834
       replace q834 := eq_true q834
       refine start_ (n := 9) (S := fun w' => w'.cell? ⟨gb830, 0, none⟩ = some (.slice (some ad834) l0_0.length c0_0) ∧ w'.cell? ⟨gb830, 1, none⟩ = some (.slice A0_1 l0_1.length c0_1) ∧ w'.cell? ⟨gb830, 2, none⟩ = some (.slice A0_2 l0_2.length c0_2) ∧ w'.cell? ⟨gb830, 3, none⟩ = some (.slice A0_3 l0_3.length c0_3) ∧ w'.cell? ⟨gb830, 4, none⟩ = some (.slice A0_4 l0_4.length c0_4) ∧ w'.cell? ⟨gb831, 0, none⟩ = some (.int .i64 a2_0) ∧ w'.cell? ⟨gb831, 1, none⟩ = some (.int .i64 a2_1) ∧ w'.cell? (ad834.add (a1).toNat) = some (.string (rdOf ByteArray.empty l0_0 a1))) (ds := []) #[false, false, false, false, false, false, false, false, false] (by kernel_rfl) rfl rfl ⟨(blk_cell BK830.out 0).trans rfl, (blk_cell BK830.out 1).trans rfl, (blk_cell BK830.out 2).trans rfl, (blk_cell BK830.out 3).trans rfl, (blk_cell BK830.out 4).trans rfl, (blk_cell BK831.out 0).trans rfl, (blk_cell BK831.out 1).trans rfl, ((HB.out.cell (World.block_lt_of_cell? w _ hw834_0)).trans hw834_0)⟩ (fun hHeld => ?_); refine with_tabW impl_StoreRead.tab3 impl_StoreRead.bits3 (fun HT_ HW_ => ?_)
       generalize w29.drew = w30 at BK830 BK831 HB hx834_0 hHeld ⊢
       refine pure_ (i := 0) (N := some 24) (v := ?_) (a' := ?_) #[true, false, false, false, false, false, false, false, false] rfl rfl (any_of HT_.out (by kernel_rfl)) (fun _ _ _ h => h) (Or.inl ⟨by rfl, ?_⟩) ?_ ?_
       rotate_left
       ·intro w'
        go_simp
        with_reducible rfl
       rotate_left
       ·simp only [Act.put, List.setIfInBounds_toArray, List.set_cons_zero, List.set_cons_succ, i64_w, i32_w]
        rfl
       refine pure_ (i := 2) (N := some 26) (v := ?_) (a' := ?_) #[true, false, true, false, false, false, false, false, false] rfl rfl (any_of HT_.out (by kernel_rfl)) (fun _ _ _ h => h) (Or.inl ⟨by rfl, ?_⟩) ?_ ?_
       rotate_left
       ·intro w'
        go_simp
        with_reducible rfl
       rotate_left
       ·simp only [Act.put, List.setIfInBounds_toArray, List.set_cons_zero, List.set_cons_succ, i64_w, i32_w]
        rfl
       refine take_ (i := 1) (N := some 25) (v := ?_) (a' := ?_) #[true, true, true, false, false, false, false, false, false] rfl rfl (take_ofW HT_.out HW_.out (by kernel_rfl)) (fun _ _ _ h => h) (Or.inl ⟨by rfl, ?_⟩) hHeld ?_ ?_
       rotate_left
       ·rintro w' ⟨s0, s1, s2, s3, s4, s5, s6, s7⟩
        go_simp
        with_reducible rfl
       rotate_left
       ·simp only [Act.put, List.setIfInBounds_toArray, List.set_cons_zero, List.set_cons_succ, i64_w, i32_w]
        rfl
       refine pure_ (i := 3) (N := some 27) (v := ?_) (a' := ?_) #[true, true, true, true, false, false, false, false, false] rfl rfl (any_of HT_.out (by kernel_rfl)) (fun _ _ _ h => h) (Or.inl ⟨by rfl, ?_⟩) ?_ ?_
       rotate_left
       ·intro w'
        go_simp
        with_reducible rfl
       rotate_left
       ·simp only [Act.put, List.setIfInBounds_toArray, List.set_cons_zero, List.set_cons_succ, i64_w, i32_w]
        rfl
       refine take_ (i := 4) (N := some 28) (v := ?_) (a' := ?_) #[true, true, true, true, true, false, false, false, false] rfl rfl (take_ofW HT_.out HW_.out (by kernel_rfl)) (fun _ _ _ h => h) (Or.inl ⟨by rfl, ?_⟩) hHeld ?_ ?_
       rotate_left
       ·rintro w' ⟨s0, s1, s2, s3, s4, s5, s6, s7⟩
        go_simp
        with_reducible rfl
       rotate_left
       ·simp only [Act.put, List.setIfInBounds_toArray, List.set_cons_zero, List.set_cons_succ, i64_w, i32_w]
        rfl
       refine take_ (i := 5) (N := some 29) (v := ?_) (a' := ?_) #[true, true, true, true, true, true, false, false, false] rfl rfl (take_ofW HT_.out HW_.out (by kernel_rfl)) (fun _ _ _ h => h) (Or.inl ⟨by rfl, ?_⟩) hHeld ?_ ?_
       rotate_left
       ·rintro w' ⟨s0, s1, s2, s3, s4, s5, s6, s7⟩
        go_simp
        with_reducible rfl
       rotate_left
       ·simp only [Act.put, List.setIfInBounds_toArray, List.set_cons_zero, List.set_cons_succ, i64_w, i32_w]
        rfl
       refine one_ (i := 6) (N := some 30) #[true, true, true, true, true, true, true, false, false] rfl rfl (one_of HT_.out (by kernel_rfl)) (by decide) (fun K hK => ?_)
       refine goes_ Try.func33 (by kernel_rfl) rfl #[.string (rdOf ByteArray.empty l0_0 a1), .agg #[.int .i64 a2_0, .int .i64 a2_1]] (by rfl) rfl rfl (by (try simp only [List.map_toArray, List.map_cons, List.map_nil]); first | done | rfl | (simp only [List.length_drop, List.length_take]; rfl)) ?_
       with_reducible refine (impl_TextRead.calls k (rdOf ByteArray.empty l0_0 a1) a2_0 a2_1 t835 _ A22.out).mono ?_
       rintro e w31 ⟨rfl, hb⟩
       refine ⟨_, rfl, ?_⟩
       have n0_ := Ak (blk_below (g := gb830) (o := .cells #[.slice (some ad834) l0_0.length c0_0, .slice A0_1 l0_1.length c0_1, .slice A0_2 l0_2.length c0_2, .slice A0_3 l0_3.length c0_3, .slice A0_4 l0_4.length c0_4] 26 (0, 0)) (by (with_reducible repeat (first | refine blk_drewN ?_ _ | refine blk_drew ?_ | refine blk_alloc ?_ _)); exact BK830.out) hb)
       have n1_ := Ak (blk_below (g := gb831) (o := .cells #[.int .i64 a2_0, .int .i64 a2_1] 42 (0, 0)) (by (with_reducible repeat (first | refine blk_drewN ?_ _ | refine blk_drew ?_ | refine blk_alloc ?_ _)); exact BK831.out) hb)
       have n2_ := Ak (below_step (by repeat (first | (with_reducible first | exact HB.out | apply below_alloc | apply pw_below_drewN | apply below_drew1 | refine below_set ?_ GE830.out | refine below_set ?_ GE831.out) | exact HB.out)) hb)
       clear BK830
       clear BK831
       clear HB
       have BK830 := n0_
       have BK831 := n1_
       have HB := n2_
       clear n0_ n1_ n2_
       (try clear hb)
       (try clear hb2)
       (try clear hk)
       (try clear hi)
       refine hK.out _ _ ⟨(blk_cell BK830.out 0).trans rfl, (blk_cell BK830.out 1).trans rfl, (blk_cell BK830.out 2).trans rfl, (blk_cell BK830.out 3).trans rfl, (blk_cell BK830.out 4).trans rfl, (blk_cell BK831.out 0).trans rfl, (blk_cell BK831.out 1).trans rfl, ((HB.out.cell (World.block_lt_of_cell? w _ hw834_0)).trans hw834_0)⟩ (fun hHeld => ?_)
       clear hK K
       refine norm_ (a' := ?_) ?_ ?_
       rotate_left
       ·show Act.put _ (some 30) _ = _
        simp only [Act.put, List.setIfInBounds_toArray, List.set_cons_zero, List.set_cons_succ, i64_w, i32_w]
        rfl
       refine pure_ (i := 7) (N := some 6) (v := ?_) (a' := ?_) #[true, true, true, true, true, true, true, true, false] rfl rfl (any_of HT_.out (by kernel_rfl)) (fun _ _ _ h => h) (Or.inl ⟨by rfl, ?_⟩) ?_ ?_
       rotate_left
       ·intro w'
        go_simp
        with_reducible rfl
       rotate_left
       ·simp only [Act.put, List.setIfInBounds_toArray, List.set_cons_zero, List.set_cons_succ, i64_w, i32_w]
        rfl
       refine pure_ (i := 8) (N := some 7) (v := ?_) (a' := ?_) #[true, true, true, true, true, true, true, true, true] rfl rfl (any_of HT_.out (by kernel_rfl)) (fun _ _ _ h => h) (Or.inl ⟨by rfl, ?_⟩) ?_ ?_
       rotate_left
       ·intro w'
        go_simp
        with_reducible rfl
       rotate_left
       ·simp only [Act.put, List.setIfInBounds_toArray, List.set_cons_zero, List.set_cons_succ, i64_w, i32_w]
        rfl
       refine done_ (done_of HT_.out (by kernel_rfl)) ?_
       try go_wp2
       go_ret2
       exact ⟨by first | rfl | (simp [errW_none, errW_some] <;> rfl) | (simp [*, errW_none, errW_some] <;> rfl), by repeat (first | (with_reducible first | exact HB.out | apply below_alloc | apply pw_below_drewN | apply below_drew1 | refine below_set ?_ GE830.out | refine below_set ?_ GE831.out) | exact HB.out)⟩
      ·rw [if_neg c21] at H
       exact absurd H (by simp)
     ·rw [if_neg c20] at H
      exact absurd H (by simp)
    ·replace c19 := Bool.eq_false_iff.mpr c19
     subst c19
     have H1 : (some ((⟨#[]⟩ : ByteArray), false)) = some (r1, r2) := by rw [if_neg (show ¬ (false = true) by decide)] at H; exact H
     clear H
     have H := H1
     clear H1
     simp only [Option.some.injEq, Prod.mk.injEq] at H
     obtain ⟨rfl, rfl⟩ := H
     go_enter Try.func25, Try.ntmps25
     go_wp2_with (first | ((with_reducible refine gate_dst (N := 3) rfl ?_); refine box_event ?hg (N := 3) ?hd (cs := #[.slice A0_0 l0_0.length c0_0, .slice A0_1 l0_1.length c0_1, .slice A0_2 l0_2.length c0_2, .slice A0_3 l0_3.length c0_3, .slice A0_4 l0_4.length c0_4]) (t := 26) ?hr ?_; (case hd => rfl); (case hg => rfl); (case hr => first | (go_simp; done) | (go_simp; rfl)); intro gb830 hg w32 hbox hb; have n0_ := Ak (below_step (by repeat (first | (with_reducible first | exact HB.out | apply below_alloc | apply pw_below_drewN | apply below_drew1) | exact HB.out)) hb); have n1_ := Ak (hbox); have n2_ := Ak ((by rw [hg]; exact (below_size (by repeat (first | (with_reducible first | exact HB.out | apply below_alloc | apply pw_below_drewN | apply below_drew1) | exact HB.out))) : w.heap.size ≤ gb830)); have n3_ := Ak ((by rw [hg]; exact (below_size (by repeat (first | (with_reducible first | exact HB.out | apply below_alloc | apply pw_below_drewN | apply below_drew1) | exact HB.out))) : w.heap.size ≤ gb830)); clear HB; have HB := n0_; have BK830 := n1_; have GW830 := n2_; have GE830 := n3_; clear n0_ n1_ n2_ n3_; clear hb hbox hg) | ((with_reducible refine gate_dst (N := 5) rfl ?_); refine box_event ?hg (N := 5) ?hd (cs := #[.int .i64 a2_0, .int .i64 a2_1]) (t := 42) ?hr ?_; (case hd => rfl); (case hg => rfl); (case hr => first | (go_simp; done) | (go_simp; rfl)); intro gb831 hg w33 hbox hb; have n0_ := Ak (blk_below (g := gb830) (o := .cells #[.slice A0_0 l0_0.length c0_0, .slice A0_1 l0_1.length c0_1, .slice A0_2 l0_2.length c0_2, .slice A0_3 l0_3.length c0_3, .slice A0_4 l0_4.length c0_4] 26 (0, 0)) (by (with_reducible repeat (first | refine blk_drewN ?_ _ | refine blk_drew ?_ | refine blk_alloc ?_ _)); exact BK830.out) hb); have n1_ := Ak (below_step (by repeat (first | (with_reducible first | exact HB.out | apply below_alloc | apply pw_below_drewN | apply below_drew1 | refine below_set ?_ GE830.out) | exact HB.out)) hb); have n2_ := Ak (hbox); have n3_ := Ak ((by rw [hg]; exact (below_size (by repeat (first | (with_reducible first | exact HB.out | apply below_alloc | apply pw_below_drewN | apply below_drew1 | refine below_set ?_ GE830.out) | exact HB.out))) : w.heap.size ≤ gb831)); have n4_ := Ak ((by rw [hg]; exact (below_size (by repeat (first | (with_reducible first | exact HB.out | apply below_alloc | apply pw_below_drewN | apply below_drew1 | refine below_set ?_ GE830.out) | exact HB.out))) : w.heap.size ≤ gb831)); have n5_ := Ak ((by rw [hg]; exact Nat.ne_of_lt (blk_lt (g := gb830) (o := .cells #[.slice A0_0 l0_0.length c0_0, .slice A0_1 l0_1.length c0_1, .slice A0_2 l0_2.length c0_2, .slice A0_3 l0_3.length c0_3, .slice A0_4 l0_4.length c0_4] 26 (0, 0)) (by (with_reducible repeat (first | refine blk_drewN ?_ _ | refine blk_drew ?_ | refine blk_alloc ?_ _)); exact BK830.out)) : gb830 ≠ gb831)); have n6_ := Ak ((by rw [hg]; exact Nat.ne_of_gt (blk_lt (g := gb830) (o := .cells #[.slice A0_0 l0_0.length c0_0, .slice A0_1 l0_1.length c0_1, .slice A0_2 l0_2.length c0_2, .slice A0_3 l0_3.length c0_3, .slice A0_4 l0_4.length c0_4] 26 (0, 0)) (by (with_reducible repeat (first | refine blk_drewN ?_ _ | refine blk_drew ?_ | refine blk_alloc ?_ _)); exact BK830.out)) : gb831 ≠ gb830)); clear BK830; clear HB; have BK830 := n0_; have HB := n1_; have BK831 := n2_; have GW831 := n3_; have GE831 := n4_; have NB830_831 := n5_; have NB831_830 := n6_; clear n0_ n1_ n2_ n3_ n4_ n5_ n6_; clear hb hbox hg; have hnb34 := NB830_831.out; have hnc34 := NB831_830.out; have hcz35_0 : w33.cell? ⟨gb830, 0, none⟩ = some (.slice A0_0 l0_0.length c0_0) := (blk_cell BK830.out 0).trans rfl; have hcz35_1 : w33.cell? ⟨gb830, 1, none⟩ = some (.slice A0_1 l0_1.length c0_1) := (blk_cell BK830.out 1).trans rfl; have hcz35_2 : w33.cell? ⟨gb830, 2, none⟩ = some (.slice A0_2 l0_2.length c0_2) := (blk_cell BK830.out 2).trans rfl; have hcz35_3 : w33.cell? ⟨gb830, 3, none⟩ = some (.slice A0_3 l0_3.length c0_3) := (blk_cell BK830.out 3).trans rfl; have hcz35_4 : w33.cell? ⟨gb830, 4, none⟩ = some (.slice A0_4 l0_4.length c0_4) := (blk_cell BK830.out 4).trans rfl; have hfz35_0 := blk_frozen BK830.out 0; have hfz35_1 := blk_frozen BK830.out 1; have hfz35_2 := blk_frozen BK830.out 2; have hfz35_3 := blk_frozen BK830.out 3; have hfz35_4 := blk_frozen BK830.out 4) | ((with_reducible refine gate_callee (f := 23) rfl ?_); refine goesL_ (some 9) rfl rfl Try.func23 (by kernel_rfl) rfl #[.agg #[.slice A0_0 l0_0.length c0_0, .slice A0_1 l0_1.length c0_1, .slice A0_2 l0_2.length c0_2, .slice A0_3 l0_3.length c0_3, .slice A0_4 l0_4.length c0_4]] rfl (by (try simp only [List.map_toArray, List.map_cons, List.map_nil]); first | done | rfl | (simp only [List.length_drop, List.length_take]; rfl)) ?_; (with_reducible refine (impl_StoreOk.calls k _ _ l0_0 _ _ l0_1 _ _ l0_2 _ _ l0_3 _ _ l0_4 true _ ?side1 ?side2 ?side3 ?side4 ?side5 ?side6 ?side7 ?side8 ?side9 ?side10 A4.out).mono ?_); (case side1 => repeat (first | exact (Kd.C_below HR0_0.out HB.out) | (with_reducible refine Kd.C_alloc ?_ _) | (with_reducible refine Kd.C_drewN ?_ _) | (with_reducible refine Kd.C_drew ?_))); (case side2 => exact HC0_0.out); (case side3 => repeat (first | exact (Kd.C_below HR0_1.out HB.out) | (with_reducible refine Kd.C_alloc ?_ _) | (with_reducible refine Kd.C_drewN ?_ _) | (with_reducible refine Kd.C_drew ?_))); (case side4 => exact HC0_1.out); (case side5 => repeat (first | exact (Kd.C_below HR0_2.out HB.out) | (with_reducible refine Kd.C_alloc ?_ _) | (with_reducible refine Kd.C_drewN ?_ _) | (with_reducible refine Kd.C_drew ?_))); (case side6 => exact HC0_2.out); (case side7 => repeat (first | exact (Kd.C_below HR0_3.out HB.out) | (with_reducible refine Kd.C_alloc ?_ _) | (with_reducible refine Kd.C_drewN ?_ _) | (with_reducible refine Kd.C_drew ?_))); (case side8 => exact HC0_3.out); (case side9 => repeat (first | exact (Kd.C_below HR0_4.out HB.out) | (with_reducible refine Kd.C_alloc ?_ _) | (with_reducible refine Kd.C_drewN ?_ _) | (with_reducible refine Kd.C_drew ?_))); (case side10 => exact HC0_4.out); rintro e w36 ⟨rfl, hb⟩; refine ⟨_, rfl, ?_⟩; have n0_ := Ak (blk_below (g := gb830) (o := .cells #[.slice A0_0 l0_0.length c0_0, .slice A0_1 l0_1.length c0_1, .slice A0_2 l0_2.length c0_2, .slice A0_3 l0_3.length c0_3, .slice A0_4 l0_4.length c0_4] 26 (0, 0)) (by (with_reducible repeat (first | refine blk_drewN ?_ _ | refine blk_drew ?_ | refine blk_alloc ?_ _)); exact BK830.out) hb); have n1_ := Ak (blk_below (g := gb831) (o := .cells #[.int .i64 a2_0, .int .i64 a2_1] 42 (0, 0)) (by (with_reducible repeat (first | refine blk_drewN ?_ _ | refine blk_drew ?_ | refine blk_alloc ?_ _)); exact BK831.out) hb); have n2_ := Ak (below_step (by repeat (first | (with_reducible first | exact HB.out | apply below_alloc | apply pw_below_drewN | apply below_drew1 | refine below_set ?_ GE830.out | refine below_set ?_ GE831.out) | exact HB.out)) hb); clear BK830; clear BK831; clear HB; have BK830 := n0_; have BK831 := n1_; have HB := n2_; clear n0_ n1_ n2_; (try clear hb); (try clear hb2); (try clear hk); (try clear hi); have hcz37_0 : w36.cell? ⟨gb831, 0, none⟩ = some (.int .i64 a2_0) := (blk_cell BK831.out 0).trans rfl; have hcz37_1 : w36.cell? ⟨gb831, 1, none⟩ = some (.int .i64 a2_1) := (blk_cell BK831.out 1).trans rfl; have hfz37_0 := blk_frozen BK831.out 0; have hfz37_1 := blk_frozen BK831.out 1) | (go_at_call 59; (with_reducible refine (impl_SpanOk.calls a2_0 a2_1 false _ A18.out).mono ?_); rintro e w38 ⟨rfl, hb⟩; have n0_ := Ak (blk_below (g := gb830) (o := .cells #[.slice A0_0 l0_0.length c0_0, .slice A0_1 l0_1.length c0_1, .slice A0_2 l0_2.length c0_2, .slice A0_3 l0_3.length c0_3, .slice A0_4 l0_4.length c0_4] 26 (0, 0)) (by (with_reducible repeat (first | refine blk_drewN ?_ _ | refine blk_drew ?_ | refine blk_alloc ?_ _)); exact BK830.out) hb); have n1_ := Ak (blk_below (g := gb831) (o := .cells #[.int .i64 a2_0, .int .i64 a2_1] 42 (0, 0)) (by (with_reducible repeat (first | refine blk_drewN ?_ _ | refine blk_drew ?_ | refine blk_alloc ?_ _)); exact BK831.out) hb); have n2_ := Ak (below_step (by repeat (first | (with_reducible first | exact HB.out | apply below_alloc | apply pw_below_drewN | apply below_drew1 | refine below_set ?_ GE830.out | refine below_set ?_ GE831.out) | exact HB.out)) hb); clear BK830; clear BK831; clear HB; have BK830 := n0_; have BK831 := n1_; have HB := n2_; clear n0_ n1_ n2_; (try clear hb); (try clear hb2); (try clear hk); (try clear hi)))
     go_ret2
     exact ⟨by first | rfl | (simp [errW_none, errW_some] <;> rfl) | (simp [*, errW_none, errW_some] <;> rfl), by repeat (first | (with_reducible first | exact HB.out | apply below_alloc | apply pw_below_drewN | apply below_drew1 | refine below_set ?_ GE830.out | refine below_set ?_ GE831.out) | exact HB.out)⟩
 ·replace c5 := Bool.eq_false_iff.mpr c5
  subst c5
  have H1 : (some ((⟨#[]⟩ : ByteArray), false)) = some (r1, r2) := by rw [if_neg (show ¬ (false = true) by decide)] at H; exact H
  clear H
  have H := H1
  clear H1
  simp only [Option.some.injEq, Prod.mk.injEq] at H
  obtain ⟨rfl, rfl⟩ := H
  go_enter Try.func25, Try.ntmps25
  go_wp2_with (first | ((with_reducible refine gate_dst (N := 3) rfl ?_); refine box_event ?hg (N := 3) ?hd (cs := #[.slice A0_0 l0_0.length c0_0, .slice A0_1 l0_1.length c0_1, .slice A0_2 l0_2.length c0_2, .slice A0_3 l0_3.length c0_3, .slice A0_4 l0_4.length c0_4]) (t := 26) ?hr ?_; (case hd => rfl); (case hg => rfl); (case hr => first | (go_simp; done) | (go_simp; rfl)); intro gb830 hg w39 hbox hb; have n0_ := Ak (below_step (by repeat (first | (with_reducible first | exact HB.out | apply below_alloc | apply pw_below_drewN | apply below_drew1) | exact HB.out)) hb); have n1_ := Ak (hbox); have n2_ := Ak ((by rw [hg]; exact (below_size (by repeat (first | (with_reducible first | exact HB.out | apply below_alloc | apply pw_below_drewN | apply below_drew1) | exact HB.out))) : w.heap.size ≤ gb830)); have n3_ := Ak ((by rw [hg]; exact (below_size (by repeat (first | (with_reducible first | exact HB.out | apply below_alloc | apply pw_below_drewN | apply below_drew1) | exact HB.out))) : w.heap.size ≤ gb830)); clear HB; have HB := n0_; have BK830 := n1_; have GW830 := n2_; have GE830 := n3_; clear n0_ n1_ n2_ n3_; clear hb hbox hg) | ((with_reducible refine gate_dst (N := 5) rfl ?_); refine box_event ?hg (N := 5) ?hd (cs := #[.int .i64 a2_0, .int .i64 a2_1]) (t := 42) ?hr ?_; (case hd => rfl); (case hg => rfl); (case hr => first | (go_simp; done) | (go_simp; rfl)); intro gb831 hg w40 hbox hb; have n0_ := Ak (blk_below (g := gb830) (o := .cells #[.slice A0_0 l0_0.length c0_0, .slice A0_1 l0_1.length c0_1, .slice A0_2 l0_2.length c0_2, .slice A0_3 l0_3.length c0_3, .slice A0_4 l0_4.length c0_4] 26 (0, 0)) (by (with_reducible repeat (first | refine blk_drewN ?_ _ | refine blk_drew ?_ | refine blk_alloc ?_ _)); exact BK830.out) hb); have n1_ := Ak (below_step (by repeat (first | (with_reducible first | exact HB.out | apply below_alloc | apply pw_below_drewN | apply below_drew1 | refine below_set ?_ GE830.out) | exact HB.out)) hb); have n2_ := Ak (hbox); have n3_ := Ak ((by rw [hg]; exact (below_size (by repeat (first | (with_reducible first | exact HB.out | apply below_alloc | apply pw_below_drewN | apply below_drew1 | refine below_set ?_ GE830.out) | exact HB.out))) : w.heap.size ≤ gb831)); have n4_ := Ak ((by rw [hg]; exact (below_size (by repeat (first | (with_reducible first | exact HB.out | apply below_alloc | apply pw_below_drewN | apply below_drew1 | refine below_set ?_ GE830.out) | exact HB.out))) : w.heap.size ≤ gb831)); have n5_ := Ak ((by rw [hg]; exact Nat.ne_of_lt (blk_lt (g := gb830) (o := .cells #[.slice A0_0 l0_0.length c0_0, .slice A0_1 l0_1.length c0_1, .slice A0_2 l0_2.length c0_2, .slice A0_3 l0_3.length c0_3, .slice A0_4 l0_4.length c0_4] 26 (0, 0)) (by (with_reducible repeat (first | refine blk_drewN ?_ _ | refine blk_drew ?_ | refine blk_alloc ?_ _)); exact BK830.out)) : gb830 ≠ gb831)); have n6_ := Ak ((by rw [hg]; exact Nat.ne_of_gt (blk_lt (g := gb830) (o := .cells #[.slice A0_0 l0_0.length c0_0, .slice A0_1 l0_1.length c0_1, .slice A0_2 l0_2.length c0_2, .slice A0_3 l0_3.length c0_3, .slice A0_4 l0_4.length c0_4] 26 (0, 0)) (by (with_reducible repeat (first | refine blk_drewN ?_ _ | refine blk_drew ?_ | refine blk_alloc ?_ _)); exact BK830.out)) : gb831 ≠ gb830)); clear BK830; clear HB; have BK830 := n0_; have HB := n1_; have BK831 := n2_; have GW831 := n3_; have GE831 := n4_; have NB830_831 := n5_; have NB831_830 := n6_; clear n0_ n1_ n2_ n3_ n4_ n5_ n6_; clear hb hbox hg; have hnb41 := NB830_831.out; have hnc41 := NB831_830.out; have hcz42_0 : w40.cell? ⟨gb830, 0, none⟩ = some (.slice A0_0 l0_0.length c0_0) := (blk_cell BK830.out 0).trans rfl; have hcz42_1 : w40.cell? ⟨gb830, 1, none⟩ = some (.slice A0_1 l0_1.length c0_1) := (blk_cell BK830.out 1).trans rfl; have hcz42_2 : w40.cell? ⟨gb830, 2, none⟩ = some (.slice A0_2 l0_2.length c0_2) := (blk_cell BK830.out 2).trans rfl; have hcz42_3 : w40.cell? ⟨gb830, 3, none⟩ = some (.slice A0_3 l0_3.length c0_3) := (blk_cell BK830.out 3).trans rfl; have hcz42_4 : w40.cell? ⟨gb830, 4, none⟩ = some (.slice A0_4 l0_4.length c0_4) := (blk_cell BK830.out 4).trans rfl; have hfz42_0 := blk_frozen BK830.out 0; have hfz42_1 := blk_frozen BK830.out 1; have hfz42_2 := blk_frozen BK830.out 2; have hfz42_3 := blk_frozen BK830.out 3; have hfz42_4 := blk_frozen BK830.out 4) | ((with_reducible refine gate_callee (f := 23) rfl ?_); refine goesL_ (some 9) rfl rfl Try.func23 (by kernel_rfl) rfl #[.agg #[.slice A0_0 l0_0.length c0_0, .slice A0_1 l0_1.length c0_1, .slice A0_2 l0_2.length c0_2, .slice A0_3 l0_3.length c0_3, .slice A0_4 l0_4.length c0_4]] rfl (by (try simp only [List.map_toArray, List.map_cons, List.map_nil]); first | done | rfl | (simp only [List.length_drop, List.length_take]; rfl)) ?_; (with_reducible refine (impl_StoreOk.calls k _ _ l0_0 _ _ l0_1 _ _ l0_2 _ _ l0_3 _ _ l0_4 false _ ?side1 ?side2 ?side3 ?side4 ?side5 ?side6 ?side7 ?side8 ?side9 ?side10 A4.out).mono ?_); (case side1 => repeat (first | exact (Kd.C_below HR0_0.out HB.out) | (with_reducible refine Kd.C_alloc ?_ _) | (with_reducible refine Kd.C_drewN ?_ _) | (with_reducible refine Kd.C_drew ?_))); (case side2 => exact HC0_0.out); (case side3 => repeat (first | exact (Kd.C_below HR0_1.out HB.out) | (with_reducible refine Kd.C_alloc ?_ _) | (with_reducible refine Kd.C_drewN ?_ _) | (with_reducible refine Kd.C_drew ?_))); (case side4 => exact HC0_1.out); (case side5 => repeat (first | exact (Kd.C_below HR0_2.out HB.out) | (with_reducible refine Kd.C_alloc ?_ _) | (with_reducible refine Kd.C_drewN ?_ _) | (with_reducible refine Kd.C_drew ?_))); (case side6 => exact HC0_2.out); (case side7 => repeat (first | exact (Kd.C_below HR0_3.out HB.out) | (with_reducible refine Kd.C_alloc ?_ _) | (with_reducible refine Kd.C_drewN ?_ _) | (with_reducible refine Kd.C_drew ?_))); (case side8 => exact HC0_3.out); (case side9 => repeat (first | exact (Kd.C_below HR0_4.out HB.out) | (with_reducible refine Kd.C_alloc ?_ _) | (with_reducible refine Kd.C_drewN ?_ _) | (with_reducible refine Kd.C_drew ?_))); (case side10 => exact HC0_4.out); rintro e w43 ⟨rfl, hb⟩; refine ⟨_, rfl, ?_⟩; have n0_ := Ak (blk_below (g := gb830) (o := .cells #[.slice A0_0 l0_0.length c0_0, .slice A0_1 l0_1.length c0_1, .slice A0_2 l0_2.length c0_2, .slice A0_3 l0_3.length c0_3, .slice A0_4 l0_4.length c0_4] 26 (0, 0)) (by (with_reducible repeat (first | refine blk_drewN ?_ _ | refine blk_drew ?_ | refine blk_alloc ?_ _)); exact BK830.out) hb); have n1_ := Ak (blk_below (g := gb831) (o := .cells #[.int .i64 a2_0, .int .i64 a2_1] 42 (0, 0)) (by (with_reducible repeat (first | refine blk_drewN ?_ _ | refine blk_drew ?_ | refine blk_alloc ?_ _)); exact BK831.out) hb); have n2_ := Ak (below_step (by repeat (first | (with_reducible first | exact HB.out | apply below_alloc | apply pw_below_drewN | apply below_drew1 | refine below_set ?_ GE830.out | refine below_set ?_ GE831.out) | exact HB.out)) hb); clear BK830; clear BK831; clear HB; have BK830 := n0_; have BK831 := n1_; have HB := n2_; clear n0_ n1_ n2_; (try clear hb); (try clear hb2); (try clear hk); (try clear hi)))
  go_ret2
  exact ⟨by first | rfl | (simp [errW_none, errW_some] <;> rfl) | (simp [*, errW_none, errW_some] <;> rfl), by repeat (first | (with_reducible first | exact HB.out | apply below_alloc | apply pw_below_drewN | apply below_drew1 | refine below_set ?_ GE830.out | refine below_set ?_ GE831.out) | exact HB.out)⟩
end Go.Proofs.Ytmekkapacbdbeaa.P
namespace Go.Proofs.Ytmekkapacbdbeaa.P
open Go.RowKit Go.Proofs.YtmekkapacbdbeaaW.PrintWords Go.Proofs.YtmekkapacbdbeaaW.PrintLast Go.Proofs.YtmekkapacbdbeaaW.PrintMore
def spanOk (lo hi : Int) : Bool := decide (0 ≤ lo) && (decide (lo < hi) && decide (hi ≤ 48))
theorem spec_SpanOk_eq (lo hi : Int) : spec_SpanOk.f lo hi = some (spanOk lo hi) := by
 unfold spec_SpanOk.f spanOk
 by_cases h1 : lo ≥ 0
 ·rw [if_pos h1, decide_eq_true (show 0 ≤ lo from h1)]
  by_cases h2 : lo < hi
  ·rw [if_pos h2, decide_eq_true h2]
   rfl
  ·rw [if_neg h2, decide_eq_false h2]
   rfl
 ·rw [if_neg h1, decide_eq_false (show ¬ 0 ≤ lo from h1)]
  rfl
theorem impl_SpanOk_eq (lo hi : Int) : impl_SpanOk.f lo hi = some (spanOk lo hi) := spec_SpanOk_eq lo hi
theorem spanOk_iff {lo hi : Int} : spanOk lo hi = true ↔ 0 ≤ lo ∧ lo < hi ∧ hi ≤ 48 := by simp [spanOk]
def readText (t : ByteArray) (lo hi : Int) : ByteArray := t.extract (min lo.toNat t.size) (min hi.toNat t.size)
def readSt (s : St) (obj lo hi : Int) : ByteArray × Bool := if stOk s = true ∧ 0 ≤ obj ∧ obj < 3 ∧ spanOk lo hi = true then (readText (s.now.getD obj.toNat ByteArray.empty) lo hi, true) else (⟨#[]⟩, false)
theorem spec_l2Read_eq {t : ByteArray} {lo hi : Int} (h : spanOk lo hi = true) : spec_l2Read.f t lo hi = some (readText t lo hi) := by
 obtain ⟨h1, h2, h3⟩ := spanOk_iff.1 h
 have e : ∀ x : Int, 0 ≤ x → spec_l1Min.f x (t.size : Int) = some ((min x.toNat t.size : Nat) : Int) := by
  intro x hx
  unfold spec_l1Min.f
  by_cases hc : x < (t.size : Int)
  ·rw [if_pos hc, Nat.min_eq_left (by omega), Int.toNat_of_nonneg hx]
  ·rw [if_neg hc, Nat.min_eq_right (by omega)]
 unfold spec_l2Read.f readText
 rw [e lo h1, e hi (by omega), Option.bind_some, Option.bind_some, if_pos (by omega), if_pos (by omega), if_pos (by omega)]
 rfl
theorem mn_eq {t : ByteArray} {x : Int} (hx : 0 ≤ x) : mn x (t.size : Int) = ((min x.toNat t.size : Nat) : Int) := by
 unfold mn
 by_cases hc : (t.size : Int) < x
 ·rw [if_pos hc, Nat.min_eq_right (by omega)]
 ·rw [if_neg hc, Nat.min_eq_left (by omega), Int.toNat_of_nonneg hx]
theorem impl_TextRead_ev {t : ByteArray} {lo hi : Int} (hs : t.size ≤ 9223372036854775807) : Ev (fun k => impl_TextRead.f k t lo hi) (if textOk t = true ∧ spanOk lo hi = true then readText t lo hi else ⟨#[]⟩) := by
 unfold impl_TextRead.f
 refine Ev.bind (impl_TextOk_ev hs) ?_
 cases textOk t
 ·exact Ev.now _
 rw [impl_SpanOk_eq]
 cases h : spanOk lo hi
 ·exact Ev.now _
 obtain ⟨h1, h2, h3⟩ := spanOk_iff.1 h
 refine Ev.congr (f := fun _ => some (readText t lo hi)) (fun k => ?_) (Ev.now _)
 simp only [if_true, Option.bind_some]
 rw [mn_eq h1, mn_eq (by omega : 0 ≤ hi), if_pos (by omega), if_pos (by omega), if_pos (by omega)]
 rfl
theorem stOk_now {s : St} (h : stOk s = true) : s.now.length = 3 ∧ ∀ j, j < 3 → textOk (s.now.getD j ByteArray.empty) = true := by
 simp only [stOk, textsOk, Bool.and_eq_true, decide_eq_true_eq] at h
 refine ⟨h.1.2, fun j hj => ?_⟩
 exact allUp_iff.1 h.1.1 j (Nat.zero_le _) (by have := h.1.2; omega)
theorem spec_StoreRead_ev {s : St} {obj lo hi : Int} (hl : s.now.length ≤ 9223372036854775807 ∧ s.sure.length ≤ 9223372036854775807) (hz : Sized s) : Ev (fun k => spec_StoreRead.f k s.now s.sure s.last s.slast s.floors obj lo hi) (readSt s obj lo hi) := by
 unfold spec_StoreRead.f readSt
 refine Ev.bind (spec_StoreOk_ev hl hz) ?_
 cases hk : stOk s
 ·exact Ev.now _
 by_cases h1 : obj < 0
 ·refine Ev.congr (f := fun _ => some (⟨#[]⟩, false)) (fun k => by rw [if_pos rfl, if_pos h1]) ?_
  rw [if_neg (fun h => by omega)]
  exact Ev.now _
 by_cases h2 : obj ≥ 3
 ·refine Ev.congr (f := fun _ => some (⟨#[]⟩, false)) (fun k => by rw [if_pos rfl, if_neg h1, if_pos h2]) ?_
  rw [if_neg (fun h => by omega)]
  exact Ev.now _
 cases h3 : spanOk lo hi
 ·refine Ev.congr (f := fun _ => some (⟨#[]⟩, false)) (fun k => by rw [if_pos rfl, if_neg h1, if_neg h2, spec_SpanOk_eq, h3]; rfl) ?_
  rw [if_neg (fun h => by simp at h)]
  exact Ev.now _
 obtain ⟨h4, h5⟩ := stOk_now hk
 obtain ⟨n, rfl⟩ := Int.eq_ofNat_of_zero_le (by omega : 0 ≤ obj)
 refine Ev.congr (f := fun _ => some (readText (s.now.getD n ByteArray.empty) lo hi, true)) (fun k => ?_) ?_
 ·rw [if_pos rfl, if_neg h1, if_neg h2, spec_SpanOk_eq, h3, Option.bind_some, if_pos rfl, if_pos (by omega), if_pos (by omega), rdOf_nat (by omega), spec_l2Read_eq h3, Option.bind_some]
  rw [List.getD_eq_getElem?_getD, List.getElem?_eq_getElem (by omega)]
  rfl
 ·rw [if_pos ⟨rfl, by omega, by omega, rfl⟩, Int.toNat_natCast]
  exact Ev.now _
theorem impl_StoreRead_ev {s : St} {obj lo hi : Int} (hz : Sized s) : Ev (fun k => impl_StoreRead.f k s.now s.sure s.last s.slast s.floors obj lo hi) (readSt s obj lo hi) := by
 unfold impl_StoreRead.f readSt
 refine Ev.bind (impl_StoreOk_ev hz) ?_
 cases hk : stOk s
 ·exact Ev.now _
 by_cases h1 : obj < 0
 ·refine Ev.congr (f := fun _ => some (⟨#[]⟩, false)) (fun k => by rw [if_pos rfl, if_pos h1]) ?_
  rw [if_neg (fun h => by omega)]
  exact Ev.now _
 by_cases h2 : obj ≥ 3
 ·refine Ev.congr (f := fun _ => some (⟨#[]⟩, false)) (fun k => by rw [if_pos rfl, if_neg h1, if_pos h2]) ?_
  rw [if_neg (fun h => by omega)]
  exact Ev.now _
 cases h3 : spanOk lo hi
 ·refine Ev.congr (f := fun _ => some (⟨#[]⟩, false)) (fun k => by rw [if_pos rfl, if_neg h1, if_neg h2, impl_SpanOk_eq, h3]; rfl) ?_
  rw [if_neg (fun h => by simp at h)]
  exact Ev.now _
 obtain ⟨h4, h5⟩ := stOk_now hk
 obtain ⟨n, rfl⟩ := Int.eq_ofNat_of_zero_le (by omega : 0 ≤ obj)
 have hx : s.now.getD n ByteArray.empty = s.now[n]'(by omega) := by rw [List.getD_eq_getElem?_getD, List.getElem?_eq_getElem (by omega)]; rfl
 refine Ev.congr (f := fun k => (impl_TextRead.f k (s.now[n]'(by omega)) lo hi).bind fun t => some (t, true)) (fun k => ?_) ?_
 ·rw [if_pos rfl, if_neg h1, if_neg h2, impl_SpanOk_eq, h3, Option.bind_some, if_pos rfl, if_pos (by omega), if_pos (by omega), rdOf_nat (by omega)]
 ·rw [if_pos ⟨rfl, by omega, by omega, rfl⟩, Int.toNat_natCast]
  have := impl_TextRead_ev (lo := lo) (hi := hi) (hz.1 _ (List.getElem_mem (by omega : n < s.now.length)))
  rw [if_pos ⟨by rw [← hx]; exact h5 n (by omega), h3⟩] at this
  refine Ev.bind this ?_
  rw [hx]
  exact Ev.now _
theorem spec_StoreRead_c {w : World} {v : Value} {s : St} {obj lo hi : Int} {x : ByteArray} {q : Bool} (hv : StC w v s) (hz : Sized s) (hq : readSt s obj lo hi = (x, q)) :
  Calls Try.prog 31 #[v, .int .i64 obj, .agg #[.int .i64 lo, .int .i64 hi]] w fun e w' => e = .returned (.tuple #[.string x, .bool q]) ∧ Below w.heap.size w w' := by
 have he := spec_StoreRead_ev (obj := obj) (lo := lo) (hi := hi) ⟨hv.lens.1, hv.lens.2.1⟩ hz
 rw [hq] at he
 obtain ⟨k, hk⟩ := he.rounds
 obtain ⟨A0, c0, A1, c1, A2, c2, A3, c3, A4, c4, rfl, g0, g1, g2, g3, g4⟩ := hv
 exact spec_StoreRead.calls k A0 c0 s.now A1 c1 s.sure A2 c2 s.last A3 c3 s.slast A4 c4 s.floors obj lo hi x q w g0.1 g0.2 g1.1 g1.2 g2.1 g2.2 g3.1 g3.2 g4.1 g4.2 hk
theorem impl_StoreRead_c {w : World} {v : Value} {s : St} {obj lo hi : Int} {x : ByteArray} {q : Bool} (hv : StC w v s) (hz : Sized s) (hq : readSt s obj lo hi = (x, q)) :
  Calls Try.prog 25 #[v, .int .i64 obj, .agg #[.int .i64 lo, .int .i64 hi]] w fun e w' => e = .returned (.tuple #[.string x, .bool q]) ∧ Below w.heap.size w w' := by
 have he := impl_StoreRead_ev (obj := obj) (lo := lo) (hi := hi) hz
 rw [hq] at he
 obtain ⟨k, hk⟩ := he.rounds
 obtain ⟨A0, c0, A1, c1, A2, c2, A3, c3, A4, c4, rfl, g0, g1, g2, g3, g4⟩ := hv
 exact impl_StoreRead.calls k A0 c0 s.now A1 c1 s.sure A2 c2 s.last A3 c3 s.slast A4 c4 s.floors obj lo hi x q w g0.1 g0.2 g1.1 g1.2 g2.1 g2.2 g3.1 g3.2 g4.1 g4.2 hk
end Go.Proofs.Ytmekkapacbdbeaa.P
namespace Go.Proofs.Ytmekkapacbdbeaa.P
open Go.RowKit Go.Proofs.YtmekkapacbdbeaaW.PrintWords
section
variable {s t u : St}
end
end Go.Proofs.Ytmekkapacbdbeaa.P
namespace Go.Proofs.Ytmekkapacbdbeaa.P
open Go.RowKit Go.Proofs.YtmekkapacbdbeaaW.PrintWords Go.Proofs.YtmekkapacbdbeaaW.PrintLast Go.Proofs.YtmekkapacbdbeaaW.PrintMore
attribute [local go_sem] max2_int min2_int max_two min_two max_three min_three max_four min_four   
set_option linter.unusedVariables false
set_option linter.unusedSimpArgs false
end Go.Proofs.Ytmekkapacbdbeaa.P
namespace Go.Proofs.Ytmekkapacbdbeaa.P
open Go.RowKit Go.Proofs.YtmekkapacbdbeaaW.PrintWords Go.Proofs.YtmekkapacbdbeaaW.PrintLast Go.Proofs.YtmekkapacbdbeaaW.PrintMore
attribute [local go_sem] max2_int min2_int max_two min_two max_three min_three max_four min_four   
set_option linter.unusedVariables false
set_option linter.unusedSimpArgs false
end Go.Proofs.Ytmekkapacbdbeaa.P
namespace Go.Proofs.Ytmekkapacbdbeaa.P
open Go.RowKit Go.Proofs.YtmekkapacbdbeaaW.PrintWords
end Go.Proofs.Ytmekkapacbdbeaa.P
namespace Go.Proofs.Ytmekkapacbdbeaa.P
open Go.RowKit Go.Proofs.YtmekkapacbdbeaaW.PrintWords Go.Proofs.YtmekkapacbdbeaaW.PrintLast Go.Proofs.YtmekkapacbdbeaaW.PrintMore
section
variable {w : World} {A B : Option Addr} {n m c d : Nat} {a b : List Int} {x y : List ByteArray} {q : Bool}
def IsS (w : World) (A : Option Addr) (n c : Nat) (a : List ByteArray) : Prop := n = a.length ∧ Kd.C Kd.string w A a.length a ∧ a.length ≤ c
end
section
variable {w : World} {A : Option Addr} {n c : Nat} {u0 u1 u2 u3 u4 : Value} {s : St}
theorem StC.now_row (h : StC w (.agg #[.slice A n c, u1, u2, u3, u4]) s) : IsS w A n c s.now := by
 obtain ⟨A0, c0, A1, c1, A2, c2, A3, c3, A4, c4, he, g0, g1, g2, g3, g4⟩ := h
 injection he with he
 injection he with he
 injection he with e0 he
 injection e0 with f0 f1 f2
 subst f0 f1 f2
 exact ⟨rfl, g0⟩
theorem StC.now_form {x : Int} (h : StC w (.agg #[.slice A n c, u1, u2, u3, u4]) s) (h0 : 0 ≤ x) (h1 : x < s.now.length) : ∃ ad, A = some ad := by
 obtain ⟨e, h2, _⟩ := h.now_row
 obtain ⟨ad, e, _⟩ := Kd.at_string h2 x h0 h1
 exact ⟨ad, e⟩
theorem StC.now_read {ad : Addr} {x : Int} (h : StC w (.agg #[.slice (some ad) n c, u1, u2, u3, u4]) s) (h0 : 0 ≤ x) (h1 : x < s.now.length) : w.cell? (ad.add x.toNat) = some (.string (rdOf ByteArray.empty s.now x)) := by
 obtain ⟨e, h2, _⟩ := h.now_row
 obtain ⟨ad', e, hc⟩ := Kd.at_string h2 x h0 h1
 cases e
 exact hc
end
end Go.Proofs.Ytmekkapacbdbeaa.P
namespace Go.Proofs.Ytmekkapacbdbeaa.P
open Go.RowKit Go.Proofs.YtmekkapacbdbeaaW.PrintWords Go.Proofs.YtmekkapacbdbeaaW.PrintLast Go.Proofs.YtmekkapacbdbeaaW.PrintMore
section
variable {w : World} {lo hi obj : Int} {t x : ByteArray} {b : Bool} {s : St}
theorem impl_TextRead_c (ht : textOk t = true) (hp : spanOk lo hi = true) (hx : readText t lo hi = x) :
  Calls Try.prog 33 #[.string t, .agg #[.int .i64 lo, .int .i64 hi]] w fun e w' => e = .returned (.string x) ∧ Below w.heap.size w w' := by
 obtain ⟨k, hk⟩ := (impl_TextRead_ev (t := t) (lo := lo) (hi := hi) (by have := (textOk_iff.1 ht).2; omega)).rounds
 rw [if_pos ⟨ht, hp⟩, hx] at hk
 exact impl_TextRead.calls k t lo hi x w hk
theorem spec_SpanOk_c (h : spanOk lo hi = b) :
  Calls Try.prog 32 #[.agg #[.int .i64 lo, .int .i64 hi]] w fun e w' => e = .returned (.bool b) ∧ Below w.heap.size w w' :=
 spec_SpanOk.calls lo hi b w (h ▸ spec_SpanOk_eq lo hi)
theorem read_some (h : readSt s obj lo hi = (x, true)) : stOk s = true ∧ 0 ≤ obj ∧ obj < 3 ∧ spanOk lo hi = true ∧ readText (s.now.getD obj.toNat ByteArray.empty) lo hi = x := by
 unfold readSt at h
 split at h
 ·rename_i g
  exact ⟨g.1, g.2.1, g.2.2.1, g.2.2.2, by cases h; rfl⟩
 ·cases h
theorem read_none (h : readSt s obj lo hi = (x, false)) : x = ⟨#[]⟩ := by
 unfold readSt at h
 split at h
 ·cases h
 ·cases h; rfl
theorem read_span (h : readSt s obj lo hi = (x, false)) (hk : stOk s = true) (h0 : ¬ obj < 0) (h1 : ¬ obj ≥ 3) : spanOk lo hi = false := by
 unfold readSt at h
 split at h
 ·cases h
 ·rename_i g
  cases hs : spanOk lo hi
  ·rfl
  ·exact absurd ⟨hk, by omega, by omega, hs⟩ g
theorem read_now (h : readSt s obj lo hi = (x, true)) : textOk (rdOf ByteArray.empty s.now obj) = true ∧ readText (rdOf ByteArray.empty s.now obj) lo hi = x := by
 obtain ⟨h0, h1, h2, h3, h4⟩ := read_some h
 have hl := stOk_lens h0
 rw [getD_rdOf h1 (by omega)]
 exact ⟨stOk_text h0 (by omega), h4⟩
end
end Go.Proofs.Ytmekkapacbdbeaa.P
namespace Go.Proofs.Ytmekkapacbdbeaa.P
open Go.RowKit Go.Proofs.YtmekkapacbdbeaaW.PrintWords Go.Proofs.YtmekkapacbdbeaaW.PrintLast Go.Proofs.YtmekkapacbdbeaaW.PrintMore
set_option linter.unusedVariables false
set_option linter.unusedSimpArgs false
set_option maxHeartbeats 8000000 in
set_option maxRecDepth 100000 in
theorem FnStoreRead_walk {w : World} {A : Option Addr} {c : Nat} {l : List Int} (hl : Kd.C (Kd.int .u8) w A l.length l) (hc : l.length ≤ c) (hb : ∀ x ∈ l, 0 ≤ x ∧ x ≤ 255) :
  Calls Try.prog 6 #[.slice A l.length c] w fun e w' => e = .returned (.bool true) ∧ Below w.heap.size w w' := by
 have HL := Ak hl
 have HLC := Ak hc
 have HLB := Ak hb
 have HT0 := Ak (Nat.le_refl w.heap.size)
 clear hl hc hb
 have hu26 := Try.underlying26
 have hu42 := Try.underlying42
 go_enter Try.func6, Try.ntmps6
 go_upto_if 12 with (fail)
 by_cases c1 : (l.length : Int) > 1048576
 ·have d2 : decide (1048576 < (l.length : Int)) = true := decide_eq_true (by omega)
  (first | rw [d2] | (simp only [i64_w, i32_w]; rw [d2]) | skip)
  have K3 := Ak c1
  clear c1
  try go_wp2
  go_ret
  exact ⟨rfl, (Below.refl _ _)⟩
 ·have d2 : decide (1048576 < (l.length : Int)) = false := decide_eq_false (by omega)
  (first | rw [d2] | (simp only [i64_w, i32_w]; rw [d2]) | skip)
  have K3 := Ak c1
  clear c1
  go_wp2_with (fail)
  refine (DrawStoreRead_c (Kd.C_below HL.out (Below.refl _ _)) HLC.out HLB.out).mono ?_
  rintro e W20 ⟨u12, t13, obj6, lo7, hi8, rfl, hr14, hs15, hz16, hb21⟩
  have HB22 := Ak hb21
  clear hb21
  have HRs17 := Ak hr14
  have HS18 := Ak hs15
  have HZ19 := Ak hz16
  obtain ⟨as17_0, ds17_0, as17_1, ds17_1, as17_2, ds17_2, as17_3, ds17_3, as17_4, ds17_4, rfl, _⟩ := hr14.toC
  clear hr14 hs15 hz16
  go_wp2_with (first | ((with_reducible refine gate_dst (N := 3) rfl ?_); refine ev_box ?hg (N := 3) ?hd (cs := #[.slice none 0 0, .slice none 0 0, .slice none 0 0, .slice none 0 0, .slice none 0 0]) (t := 26) ?hr ?_; (case hd => rfl); (case hg => rfl); (case hr => first | (go_simp; done) | (go_simp; rfl)); intro g3 W23 HG26 BK24 HB25) | ((with_reducible refine gate_dst (N := 5) rfl ?_); refine ev_box ?hg (N := 5) ?hd (cs := #[.int .i64 0, .int .i64 0]) (t := 42) ?hr ?_; (case hd => rfl); (case hg => rfl); (case hr => first | (go_simp; done) | (go_simp; rfl)); intro g5 W27 HG30 BK28 HB29) | ((with_reducible refine gate_store (t := 26) (p := 3) rfl ?_); refine ev_put (by rfl) rfl rfl (g := g3) rfl (cs := #[.slice as17_0 t13.now.length ds17_0, .slice as17_1 t13.sure.length ds17_1, .slice as17_2 t13.last.length ds17_2, .slice as17_3 t13.slast.length ds17_3, .slice as17_4 t13.floors.length ds17_4]) rfl (Bk.below BK24.out HB29.out) (by kernel_rfl) rfl rfl ?_; intro W31 BK32 HB33 HK34; have z0_ := HT0.out; have z1_ := HB22.out.size; have z2_ := HB25.out.size; have z3_ := HG26.out; have z4_ := BK24.out.lt; have z5_ := HB29.out.size; have z6_ := HG30.out; have z7_ := BK28.out.lt; have C35 := Ak (show w.heap.size ≤ w.heap.size ∧ w.heap.size ≤ W20.heap.size from (by omega)); have C36 := Ak (show W20.heap.size ≤ g3 ∧ g3 ≤ g3 + 1 from (by omega)); have C37 := Ak (show g3 + 1 ≤ g5 ∧ g5 ≤ g5 + 1 from (by omega)); have T38 := Ak (show g5 + 1 ≤ W27.heap.size from (by omega)); have HB39 := Ak (below_at (below_step (below_step HB22.out HB25.out) HB29.out) HB33.out (by show w.heap.size ≤ g3; omega)); have HK40 := Ak (HK34.out); have T41 := Ak (Nat.le_trans T38.out HK40.out.1); have F42 := Ak (StI.kept (StI.below HRs17.out (below_step HB25.out HB29.out)) HK40.out (fun k_ h_ => (by obtain ⟨h1_, h2_⟩ := h_; omega))); have F43 := Ak (BK32.out); have F44 := Ak (Bk.kept BK28.out HK40.out (fun h_ => (by obtain ⟨h1_, h2_⟩ := h_; omega))); clear z0_ z1_ z2_ z3_ z4_ z5_ z6_ z7_) | ((with_reducible refine gate_store (t := 42) (p := 5) rfl ?_); refine ev_put (by rfl) rfl rfl (g := g5) rfl (cs := #[.int .i64 lo7, .int .i64 hi8]) rfl F44.out (by kernel_rfl) rfl rfl ?_; intro W45 BK46 HB47 HK48; have z0_ := C35.out; have z1_ := C36.out; have z2_ := C37.out; have z3_ := T41.out; have T49 := Ak (show g5 + 1 ≤ W31.heap.size from (by omega)); have HB50 := Ak (below_at HB39.out HB47.out (by show w.heap.size ≤ g5; omega)); have HK51 := Ak (HK48.out); have T52 := Ak (Nat.le_trans T49.out HK51.out.1); have F53 := Ak (StI.kept F42.out HK51.out (fun k_ h_ => (by obtain ⟨h1_, h2_⟩ := h_; omega))); have F54 := Ak (Bk.kept F43.out HK51.out (fun h_ => (by obtain ⟨h1_, h2_⟩ := h_; omega))); have F55 := Ak (BK46.out); clear z0_ z1_ z2_ z3_) | ((with_reducible refine gate_dst (N := 20) rfl ?_); refine ev_load rfl (N := 20) rfl rfl (g := g3) rfl (cs := #[.slice as17_0 t13.now.length ds17_0, .slice as17_1 t13.sure.length ds17_1, .slice as17_2 t13.last.length ds17_2, .slice as17_3 t13.slast.length ds17_3, .slice as17_4 t13.floors.length ds17_4]) F54.out hu26 rfl (by kernel_rfl) ?_) | ((with_reducible refine gate_dst (N := 22) rfl ?_); refine ev_load rfl (N := 22) rfl rfl (g := g5) rfl (cs := #[.int .i64 lo7, .int .i64 hi8]) F55.out hu42 rfl (by kernel_rfl) ?_))
  obtain ⟨⟨t56, q58⟩, ht_⟩ : ∃ x_, readSt t13 obj6 lo7 hi8 = x_ := ⟨_, rfl⟩
  have HT57 := Ak ht_
  clear ht_
  refine (impl_StoreRead_c (StI.toC F53.out) HZ19.out HT57.out).mono ?_
  rintro e W59 ⟨rfl, hb60⟩
  have HB61 := Ak hb60
  clear hb60
  go_wp2_with (first | ((with_reducible refine gate_dst (N := 27) rfl ?_); refine ev_load rfl (N := 27) rfl rfl (g := g3) rfl (cs := #[.slice as17_0 t13.now.length ds17_0, .slice as17_1 t13.sure.length ds17_1, .slice as17_2 t13.last.length ds17_2, .slice as17_3 t13.slast.length ds17_3, .slice as17_4 t13.floors.length ds17_4]) (Bk.below F54.out HB61.out) hu26 rfl (by kernel_rfl) ?_) | ((with_reducible refine gate_dst (N := 29) rfl ?_); refine ev_load rfl (N := 29) rfl rfl (g := g5) rfl (cs := #[.int .i64 lo7, .int .i64 hi8]) (Bk.below F55.out HB61.out) hu42 rfl (by kernel_rfl) ?_))
  refine (spec_StoreRead_c (StI.toC (StI.below F53.out HB61.out)) HZ19.out HT57.out).mono ?_
  rintro e W62 ⟨rfl, hb63⟩
  have HB64 := Ak hb63
  clear hb63
  go_upto_region 8 with (fail)
  by_cases c65 : q58 = true
  ·have K66 := Ak c65
   clear c65
   obtain rfl : q58 = true := K66.out
   have HRS := Ak (read_some HT57.out)
   go_upto_region 10 with (fail)
   have HI67 := Ak (show 0 ≤ (obj6 : Int) ∧ (obj6 : Int) < ((t13.now).length : Int) from (by have h_ := HRS.out; have l_ := stOk_lens h_.1; exact ⟨by omega, by omega⟩))
   obtain ⟨ad68, rfl⟩ := StC.now_form (StI.toC (StI.below F53.out (below_step HB61.out HB64.out))) HI67.out.1 HI67.out.2
   have pHI67 := eq_true HI67.out.1
   have qHI67 := eq_true HI67.out.2
   go_wp2_with (fail)
   refine start_ (n := 10) (S := fun w' => Bk w' g3 #[.slice (some ad68) t13.now.length ds17_0, .slice as17_1 t13.sure.length ds17_1, .slice as17_2 t13.last.length ds17_2, .slice as17_3 t13.slast.length ds17_3, .slice as17_4 t13.floors.length ds17_4] 26 ∧ Bk w' g5 #[.int .i64 lo7, .int .i64 hi8] 42 ∧ w'.cell? (ad68.add (obj6).toNat) = some (.string (rdOf ByteArray.empty t13.now obj6))) (ds := []) #[false, false, false, false, false, false, false, false, false, false] (by kernel_rfl) rfl rfl ⟨(show Bk W62 g3 #[.slice (some ad68) t13.now.length ds17_0, .slice as17_1 t13.sure.length ds17_1, .slice as17_2 t13.last.length ds17_2, .slice as17_3 t13.slast.length ds17_3, .slice as17_4 t13.floors.length ds17_4] 26 from (Bk.below F54.out (below_step HB61.out HB64.out))), (show Bk W62 g5 #[.int .i64 lo7, .int .i64 hi8] 42 from (Bk.below F55.out (below_step HB61.out HB64.out))), (show W62.cell? (ad68.add (obj6).toNat) = some (.string (rdOf ByteArray.empty t13.now obj6)) from (StC.now_read (StI.toC (StI.below F53.out (below_step HB61.out HB64.out))) HI67.out.1 HI67.out.2))⟩ (fun hHeld => ?_)
   clear hHeld
   refine world_at (w := W62) (below_drew0 _) (fun W69 HB70 => ?_)
   refine pure_ (i := 0) (N := some 63) (v := ?_) (a' := ?_) #[true, false, false, false, false, false, false, false, false, false] rfl rfl (by kernel_rfl) (fun _ _ _ h => h) (Or.inl ⟨by rfl, ?_⟩) ?_ ?_
   rotate_left
   ·intro w'
    go_simp
    with_reducible rfl
   rotate_left
   ·simp only [Act.put, List.setIfInBounds_toArray, List.set_cons_zero, List.set_cons_succ, i64_w, i32_w]
    rfl
   refine pure_ (i := 1) (N := some 64) (v := ?_) (a' := ?_) #[true, true, false, false, false, false, false, false, false, false] rfl rfl (by kernel_rfl) (fun _ _ _ h => h) (Or.inl ⟨by rfl, ?_⟩) ?_ ?_
   rotate_left
   ·intro w'
    go_simp
    with_reducible rfl
   rotate_left
   ·simp only [Act.put, List.setIfInBounds_toArray, List.set_cons_zero, List.set_cons_succ, i64_w, i32_w]
    rfl
   refine take_ (i := 2) (N := some 65) (v := .slice (some ad68) t13.now.length ds17_0) (a' := ?_) #[true, true, true, false, false, false, false, false, false, false] rfl rfl (by kernel_rfl) (fun _ _ _ h => h) (Or.inl ⟨by rfl, ?_⟩) ⟨(Bk.below F54.out (below_step (below_step HB61.out HB64.out) HB70.out)), (Bk.below F55.out (below_step (below_step HB61.out HB64.out) HB70.out)), (show W69.cell? (ad68.add (obj6).toNat) = some (.string (rdOf ByteArray.empty t13.now obj6)) from (StC.now_read (StI.toC (StI.below F53.out (below_step (below_step HB61.out HB64.out) HB70.out))) HI67.out.1 HI67.out.2))⟩ ?_ ?_
   ·rintro w' ⟨s0_, s1_, s2_⟩
    have hc_ : w'.cell? ⟨g3, 0, none⟩ = some (.slice (some ad68) t13.now.length ds17_0) := (Bk.cell s0_ 0).trans rfl
    first | (go_simp; done) | (go_simp; with_reducible rfl) | (go_simp; rfl)
   rotate_left
   ·simp only [Act.put, List.setIfInBounds_toArray, List.set_cons_zero, List.set_cons_succ, i64_w, i32_w]
    rfl
   refine pure_ (i := 3) (N := some 66) (v := ?_) (a' := ?_) #[true, true, true, true, false, false, false, false, false, false] rfl rfl (by kernel_rfl) (fun _ _ _ h => h) (Or.inl ⟨by rfl, ?_⟩) ?_ ?_
   rotate_left
   ·intro w'
    go_simp
    with_reducible rfl
   rotate_left
   ·simp only [Act.put, List.setIfInBounds_toArray, List.set_cons_zero, List.set_cons_succ, i64_w, i32_w]
    rfl
   refine pure_ (i := 4) (N := some 67) (v := ?_) (a' := ?_) #[true, true, true, true, true, false, false, false, false, false] rfl rfl (by kernel_rfl) (fun _ _ _ h => h) (Or.inl ⟨by rfl, ?_⟩) ?_ ?_
   rotate_left
   ·intro w'
    go_simp
    with_reducible rfl
   rotate_left
   ·simp only [Act.put, List.setIfInBounds_toArray, List.set_cons_zero, List.set_cons_succ, i64_w, i32_w]
    rfl
   refine take_ (i := 5) (N := some 68) (v := .string (rdOf ByteArray.empty t13.now obj6)) (a' := ?_) #[true, true, true, true, true, true, false, false, false, false] rfl rfl (by kernel_rfl) (fun _ _ _ h => h) (Or.inl ⟨by rfl, ?_⟩) ⟨(Bk.below F54.out (below_step (below_step HB61.out HB64.out) HB70.out)), (Bk.below F55.out (below_step (below_step HB61.out HB64.out) HB70.out)), (show W69.cell? (ad68.add (obj6).toNat) = some (.string (rdOf ByteArray.empty t13.now obj6)) from (StC.now_read (StI.toC (StI.below F53.out (below_step (below_step HB61.out HB64.out) HB70.out))) HI67.out.1 HI67.out.2))⟩ ?_ ?_
   ·rintro w' ⟨s0_, s1_, s2_⟩
    first | (go_simp; done) | (go_simp; with_reducible rfl) | (go_simp; rfl)
   rotate_left
   ·simp only [Act.put, List.setIfInBounds_toArray, List.set_cons_zero, List.set_cons_succ, i64_w, i32_w]
    rfl
   refine take_ (i := 6) (N := some 69) (v := .agg #[.int .i64 lo7, .int .i64 hi8]) (a' := ?_) #[true, true, true, true, true, true, true, false, false, false] rfl rfl (by kernel_rfl) (fun _ _ _ h => h) (Or.inl ⟨by rfl, ?_⟩) ⟨(Bk.below F54.out (below_step (below_step HB61.out HB64.out) HB70.out)), (Bk.below F55.out (below_step (below_step HB61.out HB64.out) HB70.out)), (show W69.cell? (ad68.add (obj6).toNat) = some (.string (rdOf ByteArray.empty t13.now obj6)) from (StC.now_read (StI.toC (StI.below F53.out (below_step (below_step HB61.out HB64.out) HB70.out))) HI67.out.1 HI67.out.2))⟩ ?_ ?_
   ·rintro w' ⟨s0_, s1_, s2_⟩
    exact run_load_ev rfl rfl s1_ hu42 rfl (by kernel_rfl)
   rotate_left
   ·simp only [Act.put, List.setIfInBounds_toArray, List.set_cons_zero, List.set_cons_succ, i64_w, i32_w]
    rfl
   refine one_ (i := 7) (N := some 70) #[true, true, true, true, true, true, true, true, false, false] rfl rfl (by kernel_rfl) (by decide) (fun K hK => ?_)
   refine goes_ Try.func33 (by kernel_rfl) rfl #[.string (rdOf ByteArray.empty t13.now obj6), .agg #[.int .i64 lo7, .int .i64 hi8]] (by rfl) rfl rfl (by (try simp only [List.map_toArray, List.map_cons, List.map_nil]); first | done | rfl) ?_
   refine (impl_TextRead_c (read_now HT57.out).1 HRS.out.2.2.2.1 (read_now HT57.out).2).mono ?_
   rintro e W71 ⟨rfl, hb72⟩
   have HB73 := Ak hb72
   clear hb72
   refine ⟨_, rfl, ?_⟩
   refine hK.out _ _ ⟨(Bk.below F54.out (below_step (below_step (below_step HB61.out HB64.out) HB70.out) HB73.out)), (Bk.below F55.out (below_step (below_step (below_step HB61.out HB64.out) HB70.out) HB73.out)), (show W71.cell? (ad68.add (obj6).toNat) = some (.string (rdOf ByteArray.empty t13.now obj6)) from (StC.now_read (StI.toC (StI.below F53.out (below_step (below_step (below_step HB61.out HB64.out) HB70.out) HB73.out))) HI67.out.1 HI67.out.2))⟩ (fun hHeld => ?_)
   clear hHeld hK K
   refine norm_ (a' := ?_) ?_ ?_
   rotate_left
   ·show Act.put _ (some 70) _ = _
    simp only [Act.put, List.setIfInBounds_toArray, List.set_cons_zero, List.set_cons_succ, i64_w, i32_w]
    rfl
   refine pure_ (i := 8) (N := some 71) (v := ?_) (a' := ?_) #[true, true, true, true, true, true, true, true, true, false] rfl rfl (by kernel_rfl) (fun _ _ _ h => h) (Or.inl ⟨by rfl, ?_⟩) ?_ ?_
   rotate_left
   ·intro w'
    go_simp
    with_reducible rfl
   rotate_left
   ·simp only [Act.put, List.setIfInBounds_toArray, List.set_cons_zero, List.set_cons_succ, i64_w, i32_w]
    rfl
   refine pure_ (i := 9) (N := some 2) (v := ?_) (a' := ?_) #[true, true, true, true, true, true, true, true, true, true] rfl rfl (by kernel_rfl) (fun _ _ _ h => h) (Or.inl ⟨by rfl, ?_⟩) ?_ ?_
   rotate_left
   ·intro w'
    go_simp
    with_reducible rfl
   rotate_left
   ·simp only [Act.put, List.setIfInBounds_toArray, List.set_cons_zero, List.set_cons_succ, i64_w, i32_w]
    rfl
   refine done_ (by kernel_rfl) ?_
   try go_wp2
   go_ret
   exact ⟨rfl, (below_step HB50.out (below_step (below_step (below_step HB61.out HB64.out) HB70.out) HB73.out))⟩
  ·have K66 := Ak c65
   clear c65
   obtain rfl : q58 = false := by simpa using K66.out
   obtain rfl : t56 = ⟨#[]⟩ := read_none HT57.out
   go_upto_region 9 with (fail)
   by_cases c74 : stOk t13 = true
   ·have K75 := Ak c74
    clear c74
    go_upto_region 9 with (fail)
    by_cases c79 : obj6 < 0
    ·have d80 : decide (obj6 < 0) = true := decide_eq_true c79
     (first | rw [d80] | (simp only [i64_w, i32_w]; rw [d80]) | skip)
     have K81 := Ak c79
     clear c79
     go_wp2_with (first | ((with_reducible refine gate_dst (N := 46) rfl ?_); refine ev_load_on (by rfl) (N := 46) rfl rfl (g := g3) rfl (cs := #[.slice as17_0 t13.now.length ds17_0, .slice as17_1 t13.sure.length ds17_1, .slice as17_2 t13.last.length ds17_2, .slice as17_3 t13.slast.length ds17_3, .slice as17_4 t13.floors.length ds17_4]) (Bk.below F54.out (below_step HB61.out HB64.out)) hu26 rfl (by kernel_rfl) ?_))
     refine (spec_StoreOk_q (StI.toC (StI.below F53.out (below_step HB61.out HB64.out))) HZ19.out K75.out).mono ?_
     rintro e W82 ⟨rfl, hb83⟩
     have HB84 := Ak hb83
     clear hb83
     try go_wp2
     go_ret
     exact ⟨rfl, (below_step HB50.out (below_step (below_step HB61.out HB64.out) HB84.out))⟩
    ·have d80 : decide (obj6 < 0) = false := decide_eq_false c79
     (first | rw [d80] | (simp only [i64_w, i32_w]; rw [d80]) | skip)
     have K81 := Ak c79
     clear c79
     go_upto_region 9 with (fail)
     by_cases c88 : obj6 ≥ 3
     ·have d89 : decide (obj6 ≥ 3) = true := decide_eq_true c88
      (first | rw [d89] | (simp only [i64_w, i32_w]; rw [d89]) | skip)
      have K90 := Ak c88
      clear c88
      go_wp2_with (first | ((with_reducible refine gate_dst (N := 46) rfl ?_); refine ev_load_on (by rfl) (N := 46) rfl rfl (g := g3) rfl (cs := #[.slice as17_0 t13.now.length ds17_0, .slice as17_1 t13.sure.length ds17_1, .slice as17_2 t13.last.length ds17_2, .slice as17_3 t13.slast.length ds17_3, .slice as17_4 t13.floors.length ds17_4]) (Bk.below F54.out (below_step HB61.out HB64.out)) hu26 rfl (by kernel_rfl) ?_))
      refine (spec_StoreOk_q (StI.toC (StI.below F53.out (below_step HB61.out HB64.out))) HZ19.out K75.out).mono ?_
      rintro e W91 ⟨rfl, hb92⟩
      have HB93 := Ak hb92
      clear hb92
      try go_wp2
      go_ret
      exact ⟨rfl, (below_step HB50.out (below_step (below_step HB61.out HB64.out) HB93.out))⟩
     ·have d89 : decide (obj6 ≥ 3) = false := decide_eq_false c88
      (first | rw [d89] | (simp only [i64_w, i32_w]; rw [d89]) | skip)
      have K90 := Ak c88
      clear c88
      go_wp2_with (first | ((with_reducible refine gate_dst (N := 46) rfl ?_); refine ev_load_on (by rfl) (N := 46) rfl rfl (g := g3) rfl (cs := #[.slice as17_0 t13.now.length ds17_0, .slice as17_1 t13.sure.length ds17_1, .slice as17_2 t13.last.length ds17_2, .slice as17_3 t13.slast.length ds17_3, .slice as17_4 t13.floors.length ds17_4]) (Bk.below F54.out (below_step HB61.out HB64.out)) hu26 rfl (by kernel_rfl) ?_))
      refine (spec_StoreOk_q (StI.toC (StI.below F53.out (below_step HB61.out HB64.out))) HZ19.out K75.out).mono ?_
      rintro e W94 ⟨rfl, hb95⟩
      have HB96 := Ak hb95
      clear hb95
      go_wp2_with (first | ((with_reducible refine gate_dst (N := 58) rfl ?_); refine ev_load_on (by rfl) (N := 58) rfl rfl (g := g5) rfl (cs := #[.int .i64 lo7, .int .i64 hi8]) (Bk.below F55.out (below_step (below_step HB61.out HB64.out) HB96.out)) hu42 rfl (by kernel_rfl) ?_))
      refine (spec_SpanOk_c (read_span HT57.out K75.out (by have h_ := K81.out; omega) (by have h_ := K90.out; omega))).mono ?_
      rintro e W97 ⟨rfl, hb98⟩
      have HB99 := Ak hb98
      clear hb98
      try go_wp2
      go_ret
      exact ⟨rfl, (below_step HB50.out (below_step (below_step (below_step HB61.out HB64.out) HB96.out) HB99.out))⟩
   ·have K75 := Ak c74
    clear c74
    go_wp2_with (first | ((with_reducible refine gate_dst (N := 46) rfl ?_); refine ev_load_on (by rfl) (N := 46) rfl rfl (g := g3) rfl (cs := #[.slice as17_0 t13.now.length ds17_0, .slice as17_1 t13.sure.length ds17_1, .slice as17_2 t13.last.length ds17_2, .slice as17_3 t13.slast.length ds17_3, .slice as17_4 t13.floors.length ds17_4]) (Bk.below F54.out (below_step HB61.out HB64.out)) hu26 rfl (by kernel_rfl) ?_))
    refine (spec_StoreOk_q (StI.toC (StI.below F53.out (below_step HB61.out HB64.out))) HZ19.out (Bool.eq_false_iff.mpr K75.out)).mono ?_
    rintro e W100 ⟨rfl, hb101⟩
    have HB102 := Ak hb101
    clear hb101
    try go_wp2
    go_ret
    exact ⟨rfl, (below_step HB50.out (below_step (below_step HB61.out HB64.out) HB102.out))⟩
end Go.Proofs.Ytmekkapacbdbeaa.P

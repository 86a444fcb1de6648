/- Part 6 of the proof of FnStoreFall: words, contracts of callees, plain lemmas. -/
import Derived.Test.YtmekkapacbdbeaaZLStoreFall5
namespace Go.Proofs.Ytmekkapacbdbeaa.P
open Go.RowKit Go.Proofs.YtmekkapacbdbeaaW.PrintWords Go.Proofs.YtmekkapacbdbeaaW.PrintLast Go.Proofs.YtmekkapacbdbeaaW.PrintMore
attribute [local go_sem] max2_int min2_int max_two min_two max_three min_three max_four min_four   
set_option linter.unusedVariables false
set_option linter.unusedSimpArgs false
def impl_StoreSame.f (k : Nat) (l0_0 : List ByteArray) (l0_1 : List ByteArray) (l0_2 : List Int) (l0_3 : List Int) (l0_4 : List Int) (l1_0 : List ByteArray) (l1_1 : List ByteArray) (l1_2 : List Int) (l1_3 : List Int) (l1_4 : List Int) : Option (Bool) := (slices_Equal_string_string.f k l0_0 l1_0).bind fun t800 => (if t800 = true then ((slices_Equal_string_string.f k l0_1 l1_1).bind fun t801 => (if t801 = true then ((slices_Equal_int_int.f k l0_2 l1_2).bind fun t802 => (if t802 = true then ((slices_Equal_int_int.f k l0_3 l1_3).bind fun t803 => (if t803 = true then ((slices_Equal_int_int.f k l0_4 l1_4).bind fun t804 => (some t804)) else (some false))) else (some false))) else (some false))) else (some false))
set_option maxHeartbeats 8000000 in
set_option maxRecDepth 100000 in
theorem impl_StoreSame.calls (k : Nat) (A0_0 : Option Addr) (c0_0 : Nat) (l0_0 : List ByteArray) (A0_1 : Option Addr) (c0_1 : Nat) (l0_1 : List ByteArray) (A0_2 : Option Addr) (c0_2 : Nat) (l0_2 : List Int) (A0_3 : Option Addr) (c0_3 : Nat) (l0_3 : List Int) (A0_4 : Option Addr) (c0_4 : Nat) (l0_4 : List Int) (A1_0 : Option Addr) (c1_0 : Nat) (l1_0 : List ByteArray) (A1_1 : Option Addr) (c1_1 : Nat) (l1_1 : List ByteArray) (A1_2 : Option Addr) (c1_2 : Nat) (l1_2 : List Int) (A1_3 : Option Addr) (c1_3 : Nat) (l1_3 : List Int) (A1_4 : Option Addr) (c1_4 : Nat) (l1_4 : List Int) (r : Bool) (w : World) (hr0_0 : Kd.C Kd.string w A0_0 l0_0.length l0_0) (hc0_0 : l0_0.length ≤ c0_0) (hr0_1 : Kd.C Kd.string w A0_1 l0_1.length l0_1) (hc0_1 : l0_1.length ≤ c0_1) (hr0_2 : Kd.C (Kd.int .i64) w A0_2 l0_2.length l0_2) (hc0_2 : l0_2.length ≤ c0_2) (hr0_3 : Kd.C (Kd.int .i64) w A0_3 l0_3.length l0_3) (hc0_3 : l0_3.length ≤ c0_3) (hr0_4 : Kd.C (Kd.int .i64) w A0_4 l0_4.length l0_4) (hc0_4 : l0_4.length ≤ c0_4) (hr1_0 : Kd.C Kd.string w A1_0 l1_0.length l1_0) (hc1_0 : l1_0.length ≤ c1_0) (hr1_1 : Kd.C Kd.string w A1_1 l1_1.length l1_1) (hc1_1 : l1_1.length ≤ c1_1) (hr1_2 : Kd.C (Kd.int .i64) w A1_2 l1_2.length l1_2) (hc1_2 : l1_2.length ≤ c1_2) (hr1_3 : Kd.C (Kd.int .i64) w A1_3 l1_3.length l1_3) (hc1_3 : l1_3.length ≤ c1_3) (hr1_4 : Kd.C (Kd.int .i64) w A1_4 l1_4.length l1_4) (hc1_4 : l1_4.length ≤ c1_4) (h : impl_StoreSame.f k l0_0 l0_1 l0_2 l0_3 l0_4 l1_0 l1_1 l1_2 l1_3 l1_4 = some r) :
  Calls Try.prog 22 #[.agg #[.slice A0_0 l0_0.length c0_0, .slice A0_1 l0_1.length c0_1, .slice A0_2 l0_2.length c0_2, .slice A0_3 l0_3.length c0_3, .slice A0_4 l0_4.length c0_4], .agg #[.slice A1_0 l1_0.length c1_0, .slice A1_1 l1_1.length c1_1, .slice A1_2 l1_2.length c1_2, .slice A1_3 l1_3.length c1_3, .slice A1_4 l1_4.length c1_4]] w fun e w' => e = .returned (.bool r) ∧ Below w.heap.size w w' := by
 have hu26 := Try.underlying26
 have HR0_0 := Ak hr0_0
 have HC0_0 := Ak hc0_0
 clear hr0_0 hc0_0
 have HR0_1 := Ak hr0_1
 have HC0_1 := Ak hc0_1
 clear hr0_1 hc0_1
 have HR0_2 := Ak hr0_2
 have HC0_2 := Ak hc0_2
 clear hr0_2 hc0_2
 have HR0_3 := Ak hr0_3
 have HC0_3 := Ak hc0_3
 clear hr0_3 hc0_3
 have HR0_4 := Ak hr0_4
 have HC0_4 := Ak hc0_4
 clear hr0_4 hc0_4
 have HR1_0 := Ak hr1_0
 have HC1_0 := Ak hc1_0
 clear hr1_0 hc1_0
 have HR1_1 := Ak hr1_1
 have HC1_1 := Ak hc1_1
 clear hr1_1 hc1_1
 have HR1_2 := Ak hr1_2
 have HC1_2 := Ak hc1_2
 clear hr1_2 hc1_2
 have HR1_3 := Ak hr1_3
 have HC1_3 := Ak hc1_3
 clear hr1_3 hc1_3
 have HR1_4 := Ak hr1_4
 have HC1_4 := Ak hc1_4
 clear hr1_4 hc1_4
 have HB := Ak (Below.refl w.heap.size w)
 have H : ((slices_Equal_string_string.f k l0_0 l1_0).bind fun t800 => (if t800 = true then ((slices_Equal_string_string.f k l0_1 l1_1).bind fun t801 => (if t801 = true then ((slices_Equal_int_int.f k l0_2 l1_2).bind fun t802 => (if t802 = true then ((slices_Equal_int_int.f k l0_3 l1_3).bind fun t803 => (if t803 = true then ((slices_Equal_int_int.f k l0_4 l1_4).bind fun t804 => (some t804)) else (some false))) else (some false))) else (some false))) else (some false))) = some r := h
 clear h
 replace H := Option.bind_eq_some_iff.mp H
 obtain ⟨t800, A30, H⟩ := H
 replace H : (if t800 = true then ((slices_Equal_string_string.f k l0_1 l1_1).bind fun t801 => (if t801 = true then ((slices_Equal_int_int.f k l0_2 l1_2).bind fun t802 => (if t802 = true then ((slices_Equal_int_int.f k l0_3 l1_3).bind fun t803 => (if t803 = true then ((slices_Equal_int_int.f k l0_4 l1_4).bind fun t804 => (some t804)) else (some false))) else (some false))) else (some false))) else (some false)) = some r := H
 have A3 := Ak A30
 clear A30
 by_cases c4 : t800 = true
 ·subst c4
  have H1 : ((slices_Equal_string_string.f k l0_1 l1_1).bind fun t801 => (if t801 = true then ((slices_Equal_int_int.f k l0_2 l1_2).bind fun t802 => (if t802 = true then ((slices_Equal_int_int.f k l0_3 l1_3).bind fun t803 => (if t803 = true then ((slices_Equal_int_int.f k l0_4 l1_4).bind fun t804 => (some t804)) else (some false))) else (some false))) else (some false))) = some r := by rw [if_pos rfl] at H; exact H
  clear H
  have H := H1
  clear H1
  replace H := Option.bind_eq_some_iff.mp H
  obtain ⟨t801, A50, H⟩ := H
  replace H : (if t801 = true then ((slices_Equal_int_int.f k l0_2 l1_2).bind fun t802 => (if t802 = true then ((slices_Equal_int_int.f k l0_3 l1_3).bind fun t803 => (if t803 = true then ((slices_Equal_int_int.f k l0_4 l1_4).bind fun t804 => (some t804)) else (some false))) else (some false))) else (some false)) = some r := H
  have A5 := Ak A50
  clear A50
  by_cases c6 : t801 = true
  ·subst c6
   have H1 : ((slices_Equal_int_int.f k l0_2 l1_2).bind fun t802 => (if t802 = true then ((slices_Equal_int_int.f k l0_3 l1_3).bind fun t803 => (if t803 = true then ((slices_Equal_int_int.f k l0_4 l1_4).bind fun t804 => (some t804)) else (some false))) else (some false))) = some r := by rw [if_pos rfl] at H; exact H
   clear H
   have H := H1
   clear H1
   replace H := Option.bind_eq_some_iff.mp H
   obtain ⟨t802, A70, H⟩ := H
   replace H : (if t802 = true then ((slices_Equal_int_int.f k l0_3 l1_3).bind fun t803 => (if t803 = true then ((slices_Equal_int_int.f k l0_4 l1_4).bind fun t804 => (some t804)) else (some false))) else (some false)) = some r := H
   have A7 := Ak A70
   clear A70
   by_cases c8 : t802 = true
   ·subst c8
    have H1 : ((slices_Equal_int_int.f k l0_3 l1_3).bind fun t803 => (if t803 = true then ((slices_Equal_int_int.f k l0_4 l1_4).bind fun t804 => (some t804)) else (some false))) = some r := by rw [if_pos rfl] at H; exact H
    clear H
    have H := H1
    clear H1
    replace H := Option.bind_eq_some_iff.mp H
    obtain ⟨t803, A90, H⟩ := H
    replace H : (if t803 = true then ((slices_Equal_int_int.f k l0_4 l1_4).bind fun t804 => (some t804)) else (some false)) = some r := H
    have A9 := Ak A90
    clear A90
    by_cases c10 : t803 = true
    ·subst c10
     have H1 : ((slices_Equal_int_int.f k l0_4 l1_4).bind fun t804 => (some t804)) = some r := by rw [if_pos rfl] at H; exact H
     clear H
     have H := H1
     clear H1
     replace H := Option.bind_eq_some_iff.mp H
     obtain ⟨t804, A110, H⟩ := H
     replace H : (some t804) = some r := H
     have A11 := Ak A110
     clear A110
     obtain rfl := Option.some.inj H
     go_enter Try.func22, Try.ntmps22
     go_wp2_with (first | ((with_reducible refine gate_dst (N := 2) rfl ?_); refine box_event ?hg (N := 2) ?hd (cs := #[.slice A0_0 l0_0.length c0_0, .slice A0_1 l0_1.length c0_1, .slice A0_2 l0_2.length c0_2, .slice A0_3 l0_3.length c0_3, .slice A0_4 l0_4.length c0_4]) (t := 26) ?hr ?_; (case hd => rfl); (case hg => rfl); (case hr => first | (go_simp; done) | (go_simp; rfl)); intro gb798 hg w12 hbox hb; have n0_ := Ak (below_step (by repeat (first | (with_reducible first | exact HB.out | apply below_alloc | apply pw_below_drewN | apply below_drew1) | exact HB.out)) hb); have n1_ := Ak (hbox); have n2_ := Ak ((by rw [hg]; exact (below_size (by repeat (first | (with_reducible first | exact HB.out | apply below_alloc | apply pw_below_drewN | apply below_drew1) | exact HB.out))) : w.heap.size ≤ gb798)); have n3_ := Ak ((by rw [hg]; exact (below_size (by repeat (first | (with_reducible first | exact HB.out | apply below_alloc | apply pw_below_drewN | apply below_drew1) | exact HB.out))) : w.heap.size ≤ gb798)); clear HB; have HB := n0_; have BK798 := n1_; have GW798 := n2_; have GE798 := n3_; clear n0_ n1_ n2_ n3_; clear hb hbox hg) | ((with_reducible refine gate_dst (N := 3) rfl ?_); refine box_event ?hg (N := 3) ?hd (cs := #[.slice A1_0 l1_0.length c1_0, .slice A1_1 l1_1.length c1_1, .slice A1_2 l1_2.length c1_2, .slice A1_3 l1_3.length c1_3, .slice A1_4 l1_4.length c1_4]) (t := 26) ?hr ?_; (case hd => rfl); (case hg => rfl); (case hr => first | (go_simp; done) | (go_simp; rfl)); intro gb799 hg w13 hbox hb; have n0_ := Ak (blk_below (g := gb798) (o := .cells #[.slice A0_0 l0_0.length c0_0, .slice A0_1 l0_1.length c0_1, .slice A0_2 l0_2.length c0_2, .slice A0_3 l0_3.length c0_3, .slice A0_4 l0_4.length c0_4] 26 (0, 0)) (by (with_reducible repeat (first | refine blk_drewN ?_ _ | refine blk_drew ?_ | refine blk_alloc ?_ _)); exact BK798.out) hb); have n1_ := Ak (below_step (by repeat (first | (with_reducible first | exact HB.out | apply below_alloc | apply pw_below_drewN | apply below_drew1 | refine below_set ?_ GE798.out) | exact HB.out)) hb); have n2_ := Ak (hbox); have n3_ := Ak ((by rw [hg]; exact (below_size (by repeat (first | (with_reducible first | exact HB.out | apply below_alloc | apply pw_below_drewN | apply below_drew1 | refine below_set ?_ GE798.out) | exact HB.out))) : w.heap.size ≤ gb799)); have n4_ := Ak ((by rw [hg]; exact (below_size (by repeat (first | (with_reducible first | exact HB.out | apply below_alloc | apply pw_below_drewN | apply below_drew1 | refine below_set ?_ GE798.out) | exact HB.out))) : w.heap.size ≤ gb799)); have n5_ := Ak ((by rw [hg]; exact Nat.ne_of_lt (blk_lt (g := gb798) (o := .cells #[.slice A0_0 l0_0.length c0_0, .slice A0_1 l0_1.length c0_1, .slice A0_2 l0_2.length c0_2, .slice A0_3 l0_3.length c0_3, .slice A0_4 l0_4.length c0_4] 26 (0, 0)) (by (with_reducible repeat (first | refine blk_drewN ?_ _ | refine blk_drew ?_ | refine blk_alloc ?_ _)); exact BK798.out)) : gb798 ≠ gb799)); have n6_ := Ak ((by rw [hg]; exact Nat.ne_of_gt (blk_lt (g := gb798) (o := .cells #[.slice A0_0 l0_0.length c0_0, .slice A0_1 l0_1.length c0_1, .slice A0_2 l0_2.length c0_2, .slice A0_3 l0_3.length c0_3, .slice A0_4 l0_4.length c0_4] 26 (0, 0)) (by (with_reducible repeat (first | refine blk_drewN ?_ _ | refine blk_drew ?_ | refine blk_alloc ?_ _)); exact BK798.out)) : gb799 ≠ gb798)); clear BK798; clear HB; have BK798 := n0_; have HB := n1_; have BK799 := n2_; have GW799 := n3_; have GE799 := n4_; have NB798_799 := n5_; have NB799_798 := n6_; clear n0_ n1_ n2_ n3_ n4_ n5_ n6_; clear hb hbox hg; have hnb14 := NB798_799.out; have hnc14 := NB799_798.out; have hcz15_0 : w13.cell? ⟨gb798, 0, none⟩ = some (.slice A0_0 l0_0.length c0_0) := (blk_cell BK798.out 0).trans rfl; have hcz15_1 : w13.cell? ⟨gb798, 1, none⟩ = some (.slice A0_1 l0_1.length c0_1) := (blk_cell BK798.out 1).trans rfl; have hcz15_2 : w13.cell? ⟨gb798, 2, none⟩ = some (.slice A0_2 l0_2.length c0_2) := (blk_cell BK798.out 2).trans rfl; have hcz15_3 : w13.cell? ⟨gb798, 3, none⟩ = some (.slice A0_3 l0_3.length c0_3) := (blk_cell BK798.out 3).trans rfl; have hcz15_4 : w13.cell? ⟨gb798, 4, none⟩ = some (.slice A0_4 l0_4.length c0_4) := (blk_cell BK798.out 4).trans rfl; have hfz15_0 := blk_frozen BK798.out 0; have hfz15_1 := blk_frozen BK798.out 1; have hfz15_2 := blk_frozen BK798.out 2; have hfz15_3 := blk_frozen BK798.out 3; have hfz15_4 := blk_frozen BK798.out 4; have hcz16_0 : w13.cell? ⟨gb799, 0, none⟩ = some (.slice A1_0 l1_0.length c1_0) := (blk_cell BK799.out 0).trans rfl; have hcz16_1 : w13.cell? ⟨gb799, 1, none⟩ = some (.slice A1_1 l1_1.length c1_1) := (blk_cell BK799.out 1).trans rfl; have hcz16_2 : w13.cell? ⟨gb799, 2, none⟩ = some (.slice A1_2 l1_2.length c1_2) := (blk_cell BK799.out 2).trans rfl; have hcz16_3 : w13.cell? ⟨gb799, 3, none⟩ = some (.slice A1_3 l1_3.length c1_3) := (blk_cell BK799.out 3).trans rfl; have hcz16_4 : w13.cell? ⟨gb799, 4, none⟩ = some (.slice A1_4 l1_4.length c1_4) := (blk_cell BK799.out 4).trans rfl; have hfz16_0 := blk_frozen BK799.out 0; have hfz16_1 := blk_frozen BK799.out 1; have hfz16_2 := blk_frozen BK799.out 2; have hfz16_3 := blk_frozen BK799.out 3; have hfz16_4 := blk_frozen BK799.out 4) | ((with_reducible refine gate_callee (f := 55) rfl ?_); refine goesL_ (some 9) rfl rfl Try.func55 (by kernel_rfl) rfl #[.slice A0_0 l0_0.length c0_0, .slice A1_0 l1_0.length c1_0] rfl (by (try simp only [List.map_toArray, List.map_cons, List.map_nil]); first | done | rfl | (simp only [List.length_drop, List.length_take]; rfl)) ?_; (with_reducible refine (slices_Equal_string_string.calls k _ _ l0_0 _ _ l1_0 true _ ?side1 ?side2 ?side3 ?side4 A3.out).mono ?_); (case side1 => repeat (first | exact (Kd.C_below HR0_0.out HB.out) | (with_reducible refine Kd.C_alloc ?_ _) | (with_reducible refine Kd.C_drewN ?_ _) | (with_reducible refine Kd.C_drew ?_))); (case side2 => exact HC0_0.out); (case side3 => repeat (first | exact (Kd.C_below HR1_0.out HB.out) | (with_reducible refine Kd.C_alloc ?_ _) | (with_reducible refine Kd.C_drewN ?_ _) | (with_reducible refine Kd.C_drew ?_))); (case side4 => exact HC1_0.out); rintro e w' ⟨rfl, ⟨nd, rfl⟩⟩; refine ⟨_, rfl, ?_⟩) | (go_at_call 55; (with_reducible refine (slices_Equal_string_string.calls k _ _ l0_1 _ _ l1_1 true _ ?side1 ?side2 ?side3 ?side4 A5.out).mono ?_); (case side1 => repeat (first | exact (Kd.C_below HR0_1.out (by repeat (first | (with_reducible first | exact HB.out | apply below_alloc | apply pw_below_drewN | apply below_drew1 | refine below_set ?_ GE798.out | refine below_set ?_ GE799.out) | exact HB.out))) | (with_reducible refine Kd.C_alloc ?_ _) | (with_reducible refine Kd.C_drewN ?_ _) | (with_reducible refine Kd.C_drew ?_))); (case side2 => exact HC0_1.out); (case side3 => repeat (first | exact (Kd.C_below HR1_1.out (by repeat (first | (with_reducible first | exact HB.out | apply below_alloc | apply pw_below_drewN | apply below_drew1 | refine below_set ?_ GE798.out | refine below_set ?_ GE799.out) | exact HB.out))) | (with_reducible refine Kd.C_alloc ?_ _) | (with_reducible refine Kd.C_drewN ?_ _) | (with_reducible refine Kd.C_drew ?_))); (case side4 => exact HC1_1.out); rintro e w' ⟨rfl, ⟨nd, rfl⟩⟩) | (go_at_call 56; (with_reducible refine (slices_Equal_int_int.calls k _ _ l0_2 _ _ l1_2 true _ ?side1 ?side2 ?side3 ?side4 A7.out).mono ?_); (case side1 => repeat (first | exact (Kd.C_below HR0_2.out (by repeat (first | (with_reducible first | exact HB.out | apply below_alloc | apply pw_below_drewN | apply below_drew1 | refine below_set ?_ GE798.out | refine below_set ?_ GE799.out) | exact HB.out))) | (with_reducible refine Kd.C_alloc ?_ _) | (with_reducible refine Kd.C_drewN ?_ _) | (with_reducible refine Kd.C_drew ?_))); (case side2 => exact HC0_2.out); (case side3 => repeat (first | exact (Kd.C_below HR1_2.out (by repeat (first | (with_reducible first | exact HB.out | apply below_alloc | apply pw_below_drewN | apply below_drew1 | refine below_set ?_ GE798.out | refine below_set ?_ GE799.out) | exact HB.out))) | (with_reducible refine Kd.C_alloc ?_ _) | (with_reducible refine Kd.C_drewN ?_ _) | (with_reducible refine Kd.C_drew ?_))); (case side4 => exact HC1_2.out); rintro e w' ⟨rfl, ⟨nd, rfl⟩⟩) | (go_at_call 56; (with_reducible refine (slices_Equal_int_int.calls k _ _ l0_3 _ _ l1_3 true _ ?side1 ?side2 ?side3 ?side4 A9.out).mono ?_); (case side1 => repeat (first | exact (Kd.C_below HR0_3.out (by repeat (first | (with_reducible first | exact HB.out | apply below_alloc | apply pw_below_drewN | apply below_drew1 | refine below_set ?_ GE798.out | refine below_set ?_ GE799.out) | exact HB.out))) | (with_reducible refine Kd.C_alloc ?_ _) | (with_reducible refine Kd.C_drewN ?_ _) | (with_reducible refine Kd.C_drew ?_))); (case side2 => exact HC0_3.out); (case side3 => repeat (first | exact (Kd.C_below HR1_3.out (by repeat (first | (with_reducible first | exact HB.out | apply below_alloc | apply pw_below_drewN | apply below_drew1 | refine below_set ?_ GE798.out | refine below_set ?_ GE799.out) | exact HB.out))) | (with_reducible refine Kd.C_alloc ?_ _) | (with_reducible refine Kd.C_drewN ?_ _) | (with_reducible refine Kd.C_drew ?_))); (case side4 => exact HC1_3.out); rintro e w' ⟨rfl, ⟨nd, rfl⟩⟩) | (go_at_call 56; (with_reducible refine (slices_Equal_int_int.calls k _ _ l0_4 _ _ l1_4 t804 _ ?side1 ?side2 ?side3 ?side4 A11.out).mono ?_); (case side1 => repeat (first | exact (Kd.C_below HR0_4.out (by repeat (first | (with_reducible first | exact HB.out | apply below_alloc | apply pw_below_drewN | apply below_drew1 | refine below_set ?_ GE798.out | refine below_set ?_ GE799.out) | exact HB.out))) | (with_reducible refine Kd.C_alloc ?_ _) | (with_reducible refine Kd.C_drewN ?_ _) | (with_reducible refine Kd.C_drew ?_))); (case side2 => exact HC0_4.out); (case side3 => repeat (first | exact (Kd.C_below HR1_4.out (by repeat (first | (with_reducible first | exact HB.out | apply below_alloc | apply pw_below_drewN | apply below_drew1 | refine below_set ?_ GE798.out | refine below_set ?_ GE799.out) | exact HB.out))) | (with_reducible refine Kd.C_alloc ?_ _) | (with_reducible refine Kd.C_drewN ?_ _) | (with_reducible refine Kd.C_drew ?_))); (case side4 => exact HC1_4.out); rintro e w' ⟨rfl, ⟨nd, rfl⟩⟩))
     go_ret
     exact ⟨by first | rfl | (simp [errW_none, errW_some] <;> rfl) | (simp [*, errW_none, errW_some] <;> rfl), by repeat (first | (with_reducible first | exact HB.out | apply below_alloc | apply pw_below_drewN | apply below_drew1 | refine below_set ?_ GE798.out | refine below_set ?_ GE799.out) | exact HB.out)⟩
    ·replace c10 := Bool.eq_false_iff.mpr c10
     subst c10
     have H1 : (some false) = some r := by rw [if_neg (show ¬ (false = true) by decide)] at H; exact H
     clear H
     have H := H1
     clear H1
     obtain rfl := Option.some.inj H
     go_enter Try.func22, Try.ntmps22
     go_wp2_with (first | ((with_reducible refine gate_dst (N := 2) rfl ?_); refine box_event ?hg (N := 2) ?hd (cs := #[.slice A0_0 l0_0.length c0_0, .slice A0_1 l0_1.length c0_1, .slice A0_2 l0_2.length c0_2, .slice A0_3 l0_3.length c0_3, .slice A0_4 l0_4.length c0_4]) (t := 26) ?hr ?_; (case hd => rfl); (case hg => rfl); (case hr => first | (go_simp; done) | (go_simp; rfl)); intro gb798 hg w17 hbox hb; have n0_ := Ak (below_step (by repeat (first | (with_reducible first | exact HB.out | apply below_alloc | apply pw_below_drewN | apply below_drew1) | exact HB.out)) hb); have n1_ := Ak (hbox); have n2_ := Ak ((by rw [hg]; exact (below_size (by repeat (first | (with_reducible first | exact HB.out | apply below_alloc | apply pw_below_drewN | apply below_drew1) | exact HB.out))) : w.heap.size ≤ gb798)); have n3_ := Ak ((by rw [hg]; exact (below_size (by repeat (first | (with_reducible first | exact HB.out | apply below_alloc | apply pw_below_drewN | apply below_drew1) | exact HB.out))) : w.heap.size ≤ gb798)); clear HB; have HB := n0_; have BK798 := n1_; have GW798 := n2_; have GE798 := n3_; clear n0_ n1_ n2_ n3_; clear hb hbox hg) | ((with_reducible refine gate_dst (N := 3) rfl ?_); refine box_event ?hg (N := 3) ?hd (cs := #[.slice A1_0 l1_0.length c1_0, .slice A1_1 l1_1.length c1_1, .slice A1_2 l1_2.length c1_2, .slice A1_3 l1_3.length c1_3, .slice A1_4 l1_4.length c1_4]) (t := 26) ?hr ?_; (case hd => rfl); (case hg => rfl); (case hr => first | (go_simp; done) | (go_simp; rfl)); intro gb799 hg w18 hbox hb; have n0_ := Ak (blk_below (g := gb798) (o := .cells #[.slice A0_0 l0_0.length c0_0, .slice A0_1 l0_1.length c0_1, .slice A0_2 l0_2.length c0_2, .slice A0_3 l0_3.length c0_3, .slice A0_4 l0_4.length c0_4] 26 (0, 0)) (by (with_reducible repeat (first | refine blk_drewN ?_ _ | refine blk_drew ?_ | refine blk_alloc ?_ _)); exact BK798.out) hb); have n1_ := Ak (below_step (by repeat (first | (with_reducible first | exact HB.out | apply below_alloc | apply pw_below_drewN | apply below_drew1 | refine below_set ?_ GE798.out) | exact HB.out)) hb); have n2_ := Ak (hbox); have n3_ := Ak ((by rw [hg]; exact (below_size (by repeat (first | (with_reducible first | exact HB.out | apply below_alloc | apply pw_below_drewN | apply below_drew1 | refine below_set ?_ GE798.out) | exact HB.out))) : w.heap.size ≤ gb799)); have n4_ := Ak ((by rw [hg]; exact (below_size (by repeat (first | (with_reducible first | exact HB.out | apply below_alloc | apply pw_below_drewN | apply below_drew1 | refine below_set ?_ GE798.out) | exact HB.out))) : w.heap.size ≤ gb799)); have n5_ := Ak ((by rw [hg]; exact Nat.ne_of_lt (blk_lt (g := gb798) (o := .cells #[.slice A0_0 l0_0.length c0_0, .slice A0_1 l0_1.length c0_1, .slice A0_2 l0_2.length c0_2, .slice A0_3 l0_3.length c0_3, .slice A0_4 l0_4.length c0_4] 26 (0, 0)) (by (with_reducible repeat (first | refine blk_drewN ?_ _ | refine blk_drew ?_ | refine blk_alloc ?_ _)); exact BK798.out)) : gb798 ≠ gb799)); have n6_ := Ak ((by rw [hg]; exact Nat.ne_of_gt (blk_lt (g := gb798) (o := .cells #[.slice A0_0 l0_0.length c0_0, .slice A0_1 l0_1.length c0_1, .slice A0_2 l0_2.length c0_2, .slice A0_3 l0_3.length c0_3, .slice A0_4 l0_4.length c0_4] 26 (0, 0)) (by (with_reducible repeat (first | refine blk_drewN ?_ _ | refine blk_drew ?_ | refine blk_alloc ?_ _)); exact BK798.out)) : gb799 ≠ gb798)); clear BK798; clear HB; have BK798 := n0_; have HB := n1_; have BK799 := n2_; have GW799 := n3_; have GE799 := n4_; have NB798_799 := n5_; have NB799_798 := n6_; clear n0_ n1_ n2_ n3_ n4_ n5_ n6_; clear hb hbox hg; have hnb19 := NB798_799.out; have hnc19 := NB799_798.out; have hcz20_0 : w18.cell? ⟨gb798, 0, none⟩ = some (.slice A0_0 l0_0.length c0_0) := (blk_cell BK798.out 0).trans rfl; have hcz20_1 : w18.cell? ⟨gb798, 1, none⟩ = some (.slice A0_1 l0_1.length c0_1) := (blk_cell BK798.out 1).trans rfl; have hcz20_2 : w18.cell? ⟨gb798, 2, none⟩ = some (.slice A0_2 l0_2.length c0_2) := (blk_cell BK798.out 2).trans rfl; have hcz20_3 : w18.cell? ⟨gb798, 3, none⟩ = some (.slice A0_3 l0_3.length c0_3) := (blk_cell BK798.out 3).trans rfl; have hcz20_4 : w18.cell? ⟨gb798, 4, none⟩ = some (.slice A0_4 l0_4.length c0_4) := (blk_cell BK798.out 4).trans rfl; have hfz20_0 := blk_frozen BK798.out 0; have hfz20_1 := blk_frozen BK798.out 1; have hfz20_2 := blk_frozen BK798.out 2; have hfz20_3 := blk_frozen BK798.out 3; have hfz20_4 := blk_frozen BK798.out 4; have hcz21_0 : w18.cell? ⟨gb799, 0, none⟩ = some (.slice A1_0 l1_0.length c1_0) := (blk_cell BK799.out 0).trans rfl; have hcz21_1 : w18.cell? ⟨gb799, 1, none⟩ = some (.slice A1_1 l1_1.length c1_1) := (blk_cell BK799.out 1).trans rfl; have hcz21_2 : w18.cell? ⟨gb799, 2, none⟩ = some (.slice A1_2 l1_2.length c1_2) := (blk_cell BK799.out 2).trans rfl; have hcz21_3 : w18.cell? ⟨gb799, 3, none⟩ = some (.slice A1_3 l1_3.length c1_3) := (blk_cell BK799.out 3).trans rfl; have hcz21_4 : w18.cell? ⟨gb799, 4, none⟩ = some (.slice A1_4 l1_4.length c1_4) := (blk_cell BK799.out 4).trans rfl; have hfz21_0 := blk_frozen BK799.out 0; have hfz21_1 := blk_frozen BK799.out 1; have hfz21_2 := blk_frozen BK799.out 2; have hfz21_3 := blk_frozen BK799.out 3; have hfz21_4 := blk_frozen BK799.out 4) | ((with_reducible refine gate_callee (f := 55) rfl ?_); refine goesL_ (some 9) rfl rfl Try.func55 (by kernel_rfl) rfl #[.slice A0_0 l0_0.length c0_0, .slice A1_0 l1_0.length c1_0] rfl (by (try simp only [List.map_toArray, List.map_cons, List.map_nil]); first | done | rfl | (simp only [List.length_drop, List.length_take]; rfl)) ?_; (with_reducible refine (slices_Equal_string_string.calls k _ _ l0_0 _ _ l1_0 true _ ?side1 ?side2 ?side3 ?side4 A3.out).mono ?_); (case side1 => repeat (first | exact (Kd.C_below HR0_0.out HB.out) | (with_reducible refine Kd.C_alloc ?_ _) | (with_reducible refine Kd.C_drewN ?_ _) | (with_reducible refine Kd.C_drew ?_))); (case side2 => exact HC0_0.out); (case side3 => repeat (first | exact (Kd.C_below HR1_0.out HB.out) | (with_reducible refine Kd.C_alloc ?_ _) | (with_reducible refine Kd.C_drewN ?_ _) | (with_reducible refine Kd.C_drew ?_))); (case side4 => exact HC1_0.out); rintro e w' ⟨rfl, ⟨nd, rfl⟩⟩; refine ⟨_, rfl, ?_⟩) | (go_at_call 55; (with_reducible refine (slices_Equal_string_string.calls k _ _ l0_1 _ _ l1_1 true _ ?side1 ?side2 ?side3 ?side4 A5.out).mono ?_); (case side1 => repeat (first | exact (Kd.C_below HR0_1.out (by repeat (first | (with_reducible first | exact HB.out | apply below_alloc | apply pw_below_drewN | apply below_drew1 | refine below_set ?_ GE798.out | refine below_set ?_ GE799.out) | exact HB.out))) | (with_reducible refine Kd.C_alloc ?_ _) | (with_reducible refine Kd.C_drewN ?_ _) | (with_reducible refine Kd.C_drew ?_))); (case side2 => exact HC0_1.out); (case side3 => repeat (first | exact (Kd.C_below HR1_1.out (by repeat (first | (with_reducible first | exact HB.out | apply below_alloc | apply pw_below_drewN | apply below_drew1 | refine below_set ?_ GE798.out | refine below_set ?_ GE799.out) | exact HB.out))) | (with_reducible refine Kd.C_alloc ?_ _) | (with_reducible refine Kd.C_drewN ?_ _) | (with_reducible refine Kd.C_drew ?_))); (case side4 => exact HC1_1.out); rintro e w' ⟨rfl, ⟨nd, rfl⟩⟩) | (go_at_call 56; (with_reducible refine (slices_Equal_int_int.calls k _ _ l0_2 _ _ l1_2 true _ ?side1 ?side2 ?side3 ?side4 A7.out).mono ?_); (case side1 => repeat (first | exact (Kd.C_below HR0_2.out (by repeat (first | (with_reducible first | exact HB.out | apply below_alloc | apply pw_below_drewN | apply below_drew1 | refine below_set ?_ GE798.out | refine below_set ?_ GE799.out) | exact HB.out))) | (with_reducible refine Kd.C_alloc ?_ _) | (with_reducible refine Kd.C_drewN ?_ _) | (with_reducible refine Kd.C_drew ?_))); (case side2 => exact HC0_2.out); (case side3 => repeat (first | exact (Kd.C_below HR1_2.out (by repeat (first | (with_reducible first | exact HB.out | apply below_alloc | apply pw_below_drewN | apply below_drew1 | refine below_set ?_ GE798.out | refine below_set ?_ GE799.out) | exact HB.out))) | (with_reducible refine Kd.C_alloc ?_ _) | (with_reducible refine Kd.C_drewN ?_ _) | (with_reducible refine Kd.C_drew ?_))); (case side4 => exact HC1_2.out); rintro e w' ⟨rfl, ⟨nd, rfl⟩⟩) | (go_at_call 56; (with_reducible refine (slices_Equal_int_int.calls k _ _ l0_3 _ _ l1_3 false _ ?side1 ?side2 ?side3 ?side4 A9.out).mono ?_); (case side1 => repeat (first | exact (Kd.C_below HR0_3.out (by repeat (first | (with_reducible first | exact HB.out | apply below_alloc | apply pw_below_drewN | apply below_drew1 | refine below_set ?_ GE798.out | refine below_set ?_ GE799.out) | exact HB.out))) | (with_reducible refine Kd.C_alloc ?_ _) | (with_reducible refine Kd.C_drewN ?_ _) | (with_reducible refine Kd.C_drew ?_))); (case side2 => exact HC0_3.out); (case side3 => repeat (first | exact (Kd.C_below HR1_3.out (by repeat (first | (with_reducible first | exact HB.out | apply below_alloc | apply pw_below_drewN | apply below_drew1 | refine below_set ?_ GE798.out | refine below_set ?_ GE799.out) | exact HB.out))) | (with_reducible refine Kd.C_alloc ?_ _) | (with_reducible refine Kd.C_drewN ?_ _) | (with_reducible refine Kd.C_drew ?_))); (case side4 => exact HC1_3.out); rintro e w' ⟨rfl, ⟨nd, rfl⟩⟩))
     go_ret
     exact ⟨by first | rfl | (simp [errW_none, errW_some] <;> rfl) | (simp [*, errW_none, errW_some] <;> rfl), by repeat (first | (with_reducible first | exact HB.out | apply below_alloc | apply pw_below_drewN | apply below_drew1 | refine below_set ?_ GE798.out | refine below_set ?_ GE799.out) | exact HB.out)⟩
   ·replace c8 := Bool.eq_false_iff.mpr c8
    subst c8
    have H1 : (some false) = some r := by rw [if_neg (show ¬ (false = true) by decide)] at H; exact H
    clear H
    have H := H1
    clear H1
    obtain rfl := Option.some.inj H
    go_enter Try.func22, Try.ntmps22
    go_wp2_with (first | ((with_reducible refine gate_dst (N := 2) rfl ?_); refine box_event ?hg (N := 2) ?hd (cs := #[.slice A0_0 l0_0.length c0_0, .slice A0_1 l0_1.length c0_1, .slice A0_2 l0_2.length c0_2, .slice A0_3 l0_3.length c0_3, .slice A0_4 l0_4.length c0_4]) (t := 26) ?hr ?_; (case hd => rfl); (case hg => rfl); (case hr => first | (go_simp; done) | (go_simp; rfl)); intro gb798 hg w22 hbox hb; have n0_ := Ak (below_step (by repeat (first | (with_reducible first | exact HB.out | apply below_alloc | apply pw_below_drewN | apply below_drew1) | exact HB.out)) hb); have n1_ := Ak (hbox); have n2_ := Ak ((by rw [hg]; exact (below_size (by repeat (first | (with_reducible first | exact HB.out | apply below_alloc | apply pw_below_drewN | apply below_drew1) | exact HB.out))) : w.heap.size ≤ gb798)); have n3_ := Ak ((by rw [hg]; exact (below_size (by repeat (first | (with_reducible first | exact HB.out | apply below_alloc | apply pw_below_drewN | apply below_drew1) | exact HB.out))) : w.heap.size ≤ gb798)); clear HB; have HB := n0_; have BK798 := n1_; have GW798 := n2_; have GE798 := n3_; clear n0_ n1_ n2_ n3_; clear hb hbox hg) | ((with_reducible refine gate_dst (N := 3) rfl ?_); refine box_event ?hg (N := 3) ?hd (cs := #[.slice A1_0 l1_0.length c1_0, .slice A1_1 l1_1.length c1_1, .slice A1_2 l1_2.length c1_2, .slice A1_3 l1_3.length c1_3, .slice A1_4 l1_4.length c1_4]) (t := 26) ?hr ?_; (case hd => rfl); (case hg => rfl); (case hr => first | (go_simp; done) | (go_simp; rfl)); intro gb799 hg w23 hbox hb; have n0_ := Ak (blk_below (g := gb798) (o := .cells #[.slice A0_0 l0_0.length c0_0, .slice A0_1 l0_1.length c0_1, .slice A0_2 l0_2.length c0_2, .slice A0_3 l0_3.length c0_3, .slice A0_4 l0_4.length c0_4] 26 (0, 0)) (by (with_reducible repeat (first | refine blk_drewN ?_ _ | refine blk_drew ?_ | refine blk_alloc ?_ _)); exact BK798.out) hb); have n1_ := Ak (below_step (by repeat (first | (with_reducible first | exact HB.out | apply below_alloc | apply pw_below_drewN | apply below_drew1 | refine below_set ?_ GE798.out) | exact HB.out)) hb); have n2_ := Ak (hbox); have n3_ := Ak ((by rw [hg]; exact (below_size (by repeat (first | (with_reducible first | exact HB.out | apply below_alloc | apply pw_below_drewN | apply below_drew1 | refine below_set ?_ GE798.out) | exact HB.out))) : w.heap.size ≤ gb799)); have n4_ := Ak ((by rw [hg]; exact (below_size (by repeat (first | (with_reducible first | exact HB.out | apply below_alloc | apply pw_below_drewN | apply below_drew1 | refine below_set ?_ GE798.out) | exact HB.out))) : w.heap.size ≤ gb799)); have n5_ := Ak ((by rw [hg]; exact Nat.ne_of_lt (blk_lt (g := gb798) (o := .cells #[.slice A0_0 l0_0.length c0_0, .slice A0_1 l0_1.length c0_1, .slice A0_2 l0_2.length c0_2, .slice A0_3 l0_3.length c0_3, .slice A0_4 l0_4.length c0_4] 26 (0, 0)) (by (with_reducible repeat (first | refine blk_drewN ?_ _ | refine blk_drew ?_ | refine blk_alloc ?_ _)); exact BK798.out)) : gb798 ≠ gb799)); have n6_ := Ak ((by rw [hg]; exact Nat.ne_of_gt (blk_lt (g := gb798) (o := .cells #[.slice A0_0 l0_0.length c0_0, .slice A0_1 l0_1.length c0_1, .slice A0_2 l0_2.length c0_2, .slice A0_3 l0_3.length c0_3, .slice A0_4 l0_4.length c0_4] 26 (0, 0)) (by (with_reducible repeat (first | refine blk_drewN ?_ _ | refine blk_drew ?_ | refine blk_alloc ?_ _)); exact BK798.out)) : gb799 ≠ gb798)); clear BK798; clear HB; have BK798 := n0_; have HB := n1_; have BK799 := n2_; have GW799 := n3_; have GE799 := n4_; have NB798_799 := n5_; have NB799_798 := n6_; clear n0_ n1_ n2_ n3_ n4_ n5_ n6_; clear hb hbox hg; have hnb24 := NB798_799.out; have hnc24 := NB799_798.out; have hcz25_0 : w23.cell? ⟨gb798, 0, none⟩ = some (.slice A0_0 l0_0.length c0_0) := (blk_cell BK798.out 0).trans rfl; have hcz25_1 : w23.cell? ⟨gb798, 1, none⟩ = some (.slice A0_1 l0_1.length c0_1) := (blk_cell BK798.out 1).trans rfl; have hcz25_2 : w23.cell? ⟨gb798, 2, none⟩ = some (.slice A0_2 l0_2.length c0_2) := (blk_cell BK798.out 2).trans rfl; have hcz25_3 : w23.cell? ⟨gb798, 3, none⟩ = some (.slice A0_3 l0_3.length c0_3) := (blk_cell BK798.out 3).trans rfl; have hcz25_4 : w23.cell? ⟨gb798, 4, none⟩ = some (.slice A0_4 l0_4.length c0_4) := (blk_cell BK798.out 4).trans rfl; have hfz25_0 := blk_frozen BK798.out 0; have hfz25_1 := blk_frozen BK798.out 1; have hfz25_2 := blk_frozen BK798.out 2; have hfz25_3 := blk_frozen BK798.out 3; have hfz25_4 := blk_frozen BK798.out 4; have hcz26_0 : w23.cell? ⟨gb799, 0, none⟩ = some (.slice A1_0 l1_0.length c1_0) := (blk_cell BK799.out 0).trans rfl; have hcz26_1 : w23.cell? ⟨gb799, 1, none⟩ = some (.slice A1_1 l1_1.length c1_1) := (blk_cell BK799.out 1).trans rfl; have hcz26_2 : w23.cell? ⟨gb799, 2, none⟩ = some (.slice A1_2 l1_2.length c1_2) := (blk_cell BK799.out 2).trans rfl; have hcz26_3 : w23.cell? ⟨gb799, 3, none⟩ = some (.slice A1_3 l1_3.length c1_3) := (blk_cell BK799.out 3).trans rfl; have hcz26_4 : w23.cell? ⟨gb799, 4, none⟩ = some (.slice A1_4 l1_4.length c1_4) := (blk_cell BK799.out 4).trans rfl; have hfz26_0 := blk_frozen BK799.out 0; have hfz26_1 := blk_frozen BK799.out 1; have hfz26_2 := blk_frozen BK799.out 2; have hfz26_3 := blk_frozen BK799.out 3; have hfz26_4 := blk_frozen BK799.out 4) | ((with_reducible refine gate_callee (f := 55) rfl ?_); refine goesL_ (some 9) rfl rfl Try.func55 (by kernel_rfl) rfl #[.slice A0_0 l0_0.length c0_0, .slice A1_0 l1_0.length c1_0] rfl (by (try simp only [List.map_toArray, List.map_cons, List.map_nil]); first | done | rfl | (simp only [List.length_drop, List.length_take]; rfl)) ?_; (with_reducible refine (slices_Equal_string_string.calls k _ _ l0_0 _ _ l1_0 true _ ?side1 ?side2 ?side3 ?side4 A3.out).mono ?_); (case side1 => repeat (first | exact (Kd.C_below HR0_0.out HB.out) | (with_reducible refine Kd.C_alloc ?_ _) | (with_reducible refine Kd.C_drewN ?_ _) | (with_reducible refine Kd.C_drew ?_))); (case side2 => exact HC0_0.out); (case side3 => repeat (first | exact (Kd.C_below HR1_0.out HB.out) | (with_reducible refine Kd.C_alloc ?_ _) | (with_reducible refine Kd.C_drewN ?_ _) | (with_reducible refine Kd.C_drew ?_))); (case side4 => exact HC1_0.out); rintro e w' ⟨rfl, ⟨nd, rfl⟩⟩; refine ⟨_, rfl, ?_⟩) | (go_at_call 55; (with_reducible refine (slices_Equal_string_string.calls k _ _ l0_1 _ _ l1_1 true _ ?side1 ?side2 ?side3 ?side4 A5.out).mono ?_); (case side1 => repeat (first | exact (Kd.C_below HR0_1.out (by repeat (first | (with_reducible first | exact HB.out | apply below_alloc | apply pw_below_drewN | apply below_drew1 | refine below_set ?_ GE798.out | refine below_set ?_ GE799.out) | exact HB.out))) | (with_reducible refine Kd.C_alloc ?_ _) | (with_reducible refine Kd.C_drewN ?_ _) | (with_reducible refine Kd.C_drew ?_))); (case side2 => exact HC0_1.out); (case side3 => repeat (first | exact (Kd.C_below HR1_1.out (by repeat (first | (with_reducible first | exact HB.out | apply below_alloc | apply pw_below_drewN | apply below_drew1 | refine below_set ?_ GE798.out | refine below_set ?_ GE799.out) | exact HB.out))) | (with_reducible refine Kd.C_alloc ?_ _) | (with_reducible refine Kd.C_drewN ?_ _) | (with_reducible refine Kd.C_drew ?_))); (case side4 => exact HC1_1.out); rintro e w' ⟨rfl, ⟨nd, rfl⟩⟩) | (go_at_call 56; (with_reducible refine (slices_Equal_int_int.calls k _ _ l0_2 _ _ l1_2 false _ ?side1 ?side2 ?side3 ?side4 A7.out).mono ?_); (case side1 => repeat (first | exact (Kd.C_below HR0_2.out (by repeat (first | (with_reducible first | exact HB.out | apply below_alloc | apply pw_below_drewN | apply below_drew1 | refine below_set ?_ GE798.out | refine below_set ?_ GE799.out) | exact HB.out))) | (with_reducible refine Kd.C_alloc ?_ _) | (with_reducible refine Kd.C_drewN ?_ _) | (with_reducible refine Kd.C_drew ?_))); (case side2 => exact HC0_2.out); (case side3 => repeat (first | exact (Kd.C_below HR1_2.out (by repeat (first | (with_reducible first | exact HB.out | apply below_alloc | apply pw_below_drewN | apply below_drew1 | refine below_set ?_ GE798.out | refine below_set ?_ GE799.out) | exact HB.out))) | (with_reducible refine Kd.C_alloc ?_ _) | (with_reducible refine Kd.C_drewN ?_ _) | (with_reducible refine Kd.C_drew ?_))); (case side4 => exact HC1_2.out); rintro e w' ⟨rfl, ⟨nd, rfl⟩⟩))
    go_ret
    exact ⟨by first | rfl | (simp [errW_none, errW_some] <;> rfl) | (simp [*, errW_none, errW_some] <;> rfl), by repeat (first | (with_reducible first | exact HB.out | apply below_alloc | apply pw_below_drewN | apply below_drew1 | refine below_set ?_ GE798.out | refine below_set ?_ GE799.out) | exact HB.out)⟩
  ·replace c6 := Bool.eq_false_iff.mpr c6
   subst c6
   have H1 : (some false) = some r := by rw [if_neg (show ¬ (false = true) by decide)] at H; exact H
   clear H
   have H := H1
   clear H1
   obtain rfl := Option.some.inj H
   go_enter Try.func22, Try.ntmps22
   go_wp2_with (first | ((with_reducible refine gate_dst (N := 2) rfl ?_); refine box_event ?hg (N := 2) ?hd (cs := #[.slice A0_0 l0_0.length c0_0, .slice A0_1 l0_1.length c0_1, .slice A0_2 l0_2.length c0_2, .slice A0_3 l0_3.length c0_3, .slice A0_4 l0_4.length c0_4]) (t := 26) ?hr ?_; (case hd => rfl); (case hg => rfl); (case hr => first | (go_simp; done) | (go_simp; rfl)); intro gb798 hg w27 hbox hb; have n0_ := Ak (below_step (by repeat (first | (with_reducible first | exact HB.out | apply below_alloc | apply pw_below_drewN | apply below_drew1) | exact HB.out)) hb); have n1_ := Ak (hbox); have n2_ := Ak ((by rw [hg]; exact (below_size (by repeat (first | (with_reducible first | exact HB.out | apply below_alloc | apply pw_below_drewN | apply below_drew1) | exact HB.out))) : w.heap.size ≤ gb798)); have n3_ := Ak ((by rw [hg]; exact (below_size (by repeat (first | (with_reducible first | exact HB.out | apply below_alloc | apply pw_below_drewN | apply below_drew1) | exact HB.out))) : w.heap.size ≤ gb798)); clear HB; have HB := n0_; have BK798 := n1_; have GW798 := n2_; have GE798 := n3_; clear n0_ n1_ n2_ n3_; clear hb hbox hg) | ((with_reducible refine gate_dst (N := 3) rfl ?_); refine box_event ?hg (N := 3) ?hd (cs := #[.slice A1_0 l1_0.length c1_0, .slice A1_1 l1_1.length c1_1, .slice A1_2 l1_2.length c1_2, .slice A1_3 l1_3.length c1_3, .slice A1_4 l1_4.length c1_4]) (t := 26) ?hr ?_; (case hd => rfl); (case hg => rfl); (case hr => first | (go_simp; done) | (go_simp; rfl)); intro gb799 hg w28 hbox hb; have n0_ := Ak (blk_below (g := gb798) (o := .cells #[.slice A0_0 l0_0.length c0_0, .slice A0_1 l0_1.length c0_1, .slice A0_2 l0_2.length c0_2, .slice A0_3 l0_3.length c0_3, .slice A0_4 l0_4.length c0_4] 26 (0, 0)) (by (with_reducible repeat (first | refine blk_drewN ?_ _ | refine blk_drew ?_ | refine blk_alloc ?_ _)); exact BK798.out) hb); have n1_ := Ak (below_step (by repeat (first | (with_reducible first | exact HB.out | apply below_alloc | apply pw_below_drewN | apply below_drew1 | refine below_set ?_ GE798.out) | exact HB.out)) hb); have n2_ := Ak (hbox); have n3_ := Ak ((by rw [hg]; exact (below_size (by repeat (first | (with_reducible first | exact HB.out | apply below_alloc | apply pw_below_drewN | apply below_drew1 | refine below_set ?_ GE798.out) | exact HB.out))) : w.heap.size ≤ gb799)); have n4_ := Ak ((by rw [hg]; exact (below_size (by repeat (first | (with_reducible first | exact HB.out | apply below_alloc | apply pw_below_drewN | apply below_drew1 | refine below_set ?_ GE798.out) | exact HB.out))) : w.heap.size ≤ gb799)); have n5_ := Ak ((by rw [hg]; exact Nat.ne_of_lt (blk_lt (g := gb798) (o := .cells #[.slice A0_0 l0_0.length c0_0, .slice A0_1 l0_1.length c0_1, .slice A0_2 l0_2.length c0_2, .slice A0_3 l0_3.length c0_3, .slice A0_4 l0_4.length c0_4] 26 (0, 0)) (by (with_reducible repeat (first | refine blk_drewN ?_ _ | refine blk_drew ?_ | refine blk_alloc ?_ _)); exact BK798.out)) : gb798 ≠ gb799)); have n6_ := Ak ((by rw [hg]; exact Nat.ne_of_gt (blk_lt (g := gb798) (o := .cells #[.slice A0_0 l0_0.length c0_0, .slice A0_1 l0_1.length c0_1, .slice A0_2 l0_2.length c0_2, .slice A0_3 l0_3.length c0_3, .slice A0_4 l0_4.length c0_4] 26 (0, 0)) (by (with_reducible repeat (first | refine blk_drewN ?_ _ | refine blk_drew ?_ | refine blk_alloc ?_ _)); exact BK798.out)) : gb799 ≠ gb798)); clear BK798; clear HB; have BK798 := n0_; have HB := n1_; have BK799 := n2_; have GW799 := n3_; have GE799 := n4_; have NB798_799 := n5_; have NB799_798 := n6_; clear n0_ n1_ n2_ n3_ n4_ n5_ n6_; clear hb hbox hg; have hnb29 := NB798_799.out; have hnc29 := NB799_798.out; have hcz30_0 : w28.cell? ⟨gb798, 0, none⟩ = some (.slice A0_0 l0_0.length c0_0) := (blk_cell BK798.out 0).trans rfl; have hcz30_1 : w28.cell? ⟨gb798, 1, none⟩ = some (.slice A0_1 l0_1.length c0_1) := (blk_cell BK798.out 1).trans rfl; have hcz30_2 : w28.cell? ⟨gb798, 2, none⟩ = some (.slice A0_2 l0_2.length c0_2) := (blk_cell BK798.out 2).trans rfl; have hcz30_3 : w28.cell? ⟨gb798, 3, none⟩ = some (.slice A0_3 l0_3.length c0_3) := (blk_cell BK798.out 3).trans rfl; have hcz30_4 : w28.cell? ⟨gb798, 4, none⟩ = some (.slice A0_4 l0_4.length c0_4) := (blk_cell BK798.out 4).trans rfl; have hfz30_0 := blk_frozen BK798.out 0; have hfz30_1 := blk_frozen BK798.out 1; have hfz30_2 := blk_frozen BK798.out 2; have hfz30_3 := blk_frozen BK798.out 3; have hfz30_4 := blk_frozen BK798.out 4; have hcz31_0 : w28.cell? ⟨gb799, 0, none⟩ = some (.slice A1_0 l1_0.length c1_0) := (blk_cell BK799.out 0).trans rfl; have hcz31_1 : w28.cell? ⟨gb799, 1, none⟩ = some (.slice A1_1 l1_1.length c1_1) := (blk_cell BK799.out 1).trans rfl; have hcz31_2 : w28.cell? ⟨gb799, 2, none⟩ = some (.slice A1_2 l1_2.length c1_2) := (blk_cell BK799.out 2).trans rfl; have hcz31_3 : w28.cell? ⟨gb799, 3, none⟩ = some (.slice A1_3 l1_3.length c1_3) := (blk_cell BK799.out 3).trans rfl; have hcz31_4 : w28.cell? ⟨gb799, 4, none⟩ = some (.slice A1_4 l1_4.length c1_4) := (blk_cell BK799.out 4).trans rfl; have hfz31_0 := blk_frozen BK799.out 0; have hfz31_1 := blk_frozen BK799.out 1; have hfz31_2 := blk_frozen BK799.out 2; have hfz31_3 := blk_frozen BK799.out 3; have hfz31_4 := blk_frozen BK799.out 4) | ((with_reducible refine gate_callee (f := 55) rfl ?_); refine goesL_ (some 9) rfl rfl Try.func55 (by kernel_rfl) rfl #[.slice A0_0 l0_0.length c0_0, .slice A1_0 l1_0.length c1_0] rfl (by (try simp only [List.map_toArray, List.map_cons, List.map_nil]); first | done | rfl | (simp only [List.length_drop, List.length_take]; rfl)) ?_; (with_reducible refine (slices_Equal_string_string.calls k _ _ l0_0 _ _ l1_0 true _ ?side1 ?side2 ?side3 ?side4 A3.out).mono ?_); (case side1 => repeat (first | exact (Kd.C_below HR0_0.out HB.out) | (with_reducible refine Kd.C_alloc ?_ _) | (with_reducible refine Kd.C_drewN ?_ _) | (with_reducible refine Kd.C_drew ?_))); (case side2 => exact HC0_0.out); (case side3 => repeat (first | exact (Kd.C_below HR1_0.out HB.out) | (with_reducible refine Kd.C_alloc ?_ _) | (with_reducible refine Kd.C_drewN ?_ _) | (with_reducible refine Kd.C_drew ?_))); (case side4 => exact HC1_0.out); rintro e w' ⟨rfl, ⟨nd, rfl⟩⟩; refine ⟨_, rfl, ?_⟩) | (go_at_call 55; (with_reducible refine (slices_Equal_string_string.calls k _ _ l0_1 _ _ l1_1 false _ ?side1 ?side2 ?side3 ?side4 A5.out).mono ?_); (case side1 => repeat (first | exact (Kd.C_below HR0_1.out (by repeat (first | (with_reducible first | exact HB.out | apply below_alloc | apply pw_below_drewN | apply below_drew1 | refine below_set ?_ GE798.out | refine below_set ?_ GE799.out) | exact HB.out))) | (with_reducible refine Kd.C_alloc ?_ _) | (with_reducible refine Kd.C_drewN ?_ _) | (with_reducible refine Kd.C_drew ?_))); (case side2 => exact HC0_1.out); (case side3 => repeat (first | exact (Kd.C_below HR1_1.out (by repeat (first | (with_reducible first | exact HB.out | apply below_alloc | apply pw_below_drewN | apply below_drew1 | refine below_set ?_ GE798.out | refine below_set ?_ GE799.out) | exact HB.out))) | (with_reducible refine Kd.C_alloc ?_ _) | (with_reducible refine Kd.C_drewN ?_ _) | (with_reducible refine Kd.C_drew ?_))); (case side4 => exact HC1_1.out); rintro e w' ⟨rfl, ⟨nd, rfl⟩⟩))
   go_ret
   exact ⟨by first | rfl | (simp [errW_none, errW_some] <;> rfl) | (simp [*, errW_none, errW_some] <;> rfl), by repeat (first | (with_reducible first | exact HB.out | apply below_alloc | apply pw_below_drewN | apply below_drew1 | refine below_set ?_ GE798.out | refine below_set ?_ GE799.out) | exact HB.out)⟩
 ·replace c4 := Bool.eq_false_iff.mpr c4
  subst c4
  have H1 : (some false) = some r := by rw [if_neg (show ¬ (false = true) by decide)] at H; exact H
  clear H
  have H := H1
  clear H1
  obtain rfl := Option.some.inj H
  go_enter Try.func22, Try.ntmps22
  go_wp2_with (first | ((with_reducible refine gate_dst (N := 2) rfl ?_); refine box_event ?hg (N := 2) ?hd (cs := #[.slice A0_0 l0_0.length c0_0, .slice A0_1 l0_1.length c0_1, .slice A0_2 l0_2.length c0_2, .slice A0_3 l0_3.length c0_3, .slice A0_4 l0_4.length c0_4]) (t := 26) ?hr ?_; (case hd => rfl); (case hg => rfl); (case hr => first | (go_simp; done) | (go_simp; rfl)); intro gb798 hg w32 hbox hb; have n0_ := Ak (below_step (by repeat (first | (with_reducible first | exact HB.out | apply below_alloc | apply pw_below_drewN | apply below_drew1) | exact HB.out)) hb); have n1_ := Ak (hbox); have n2_ := Ak ((by rw [hg]; exact (below_size (by repeat (first | (with_reducible first | exact HB.out | apply below_alloc | apply pw_below_drewN | apply below_drew1) | exact HB.out))) : w.heap.size ≤ gb798)); have n3_ := Ak ((by rw [hg]; exact (below_size (by repeat (first | (with_reducible first | exact HB.out | apply below_alloc | apply pw_below_drewN | apply below_drew1) | exact HB.out))) : w.heap.size ≤ gb798)); clear HB; have HB := n0_; have BK798 := n1_; have GW798 := n2_; have GE798 := n3_; clear n0_ n1_ n2_ n3_; clear hb hbox hg) | ((with_reducible refine gate_dst (N := 3) rfl ?_); refine box_event ?hg (N := 3) ?hd (cs := #[.slice A1_0 l1_0.length c1_0, .slice A1_1 l1_1.length c1_1, .slice A1_2 l1_2.length c1_2, .slice A1_3 l1_3.length c1_3, .slice A1_4 l1_4.length c1_4]) (t := 26) ?hr ?_; (case hd => rfl); (case hg => rfl); (case hr => first | (go_simp; done) | (go_simp; rfl)); intro gb799 hg w33 hbox hb; have n0_ := Ak (blk_below (g := gb798) (o := .cells #[.slice A0_0 l0_0.length c0_0, .slice A0_1 l0_1.length c0_1, .slice A0_2 l0_2.length c0_2, .slice A0_3 l0_3.length c0_3, .slice A0_4 l0_4.length c0_4] 26 (0, 0)) (by (with_reducible repeat (first | refine blk_drewN ?_ _ | refine blk_drew ?_ | refine blk_alloc ?_ _)); exact BK798.out) hb); have n1_ := Ak (below_step (by repeat (first | (with_reducible first | exact HB.out | apply below_alloc | apply pw_below_drewN | apply below_drew1 | refine below_set ?_ GE798.out) | exact HB.out)) hb); have n2_ := Ak (hbox); have n3_ := Ak ((by rw [hg]; exact (below_size (by repeat (first | (with_reducible first | exact HB.out | apply below_alloc | apply pw_below_drewN | apply below_drew1 | refine below_set ?_ GE798.out) | exact HB.out))) : w.heap.size ≤ gb799)); have n4_ := Ak ((by rw [hg]; exact (below_size (by repeat (first | (with_reducible first | exact HB.out | apply below_alloc | apply pw_below_drewN | apply below_drew1 | refine below_set ?_ GE798.out) | exact HB.out))) : w.heap.size ≤ gb799)); have n5_ := Ak ((by rw [hg]; exact Nat.ne_of_lt (blk_lt (g := gb798) (o := .cells #[.slice A0_0 l0_0.length c0_0, .slice A0_1 l0_1.length c0_1, .slice A0_2 l0_2.length c0_2, .slice A0_3 l0_3.length c0_3, .slice A0_4 l0_4.length c0_4] 26 (0, 0)) (by (with_reducible repeat (first | refine blk_drewN ?_ _ | refine blk_drew ?_ | refine blk_alloc ?_ _)); exact BK798.out)) : gb798 ≠ gb799)); have n6_ := Ak ((by rw [hg]; exact Nat.ne_of_gt (blk_lt (g := gb798) (o := .cells #[.slice A0_0 l0_0.length c0_0, .slice A0_1 l0_1.length c0_1, .slice A0_2 l0_2.length c0_2, .slice A0_3 l0_3.length c0_3, .slice A0_4 l0_4.length c0_4] 26 (0, 0)) (by (with_reducible repeat (first | refine blk_drewN ?_ _ | refine blk_drew ?_ | refine blk_alloc ?_ _)); exact BK798.out)) : gb799 ≠ gb798)); clear BK798; clear HB; have BK798 := n0_; have HB := n1_; have BK799 := n2_; have GW799 := n3_; have GE799 := n4_; have NB798_799 := n5_; have NB799_798 := n6_; clear n0_ n1_ n2_ n3_ n4_ n5_ n6_; clear hb hbox hg; have hnb34 := NB798_799.out; have hnc34 := NB799_798.out; have hcz35_0 : w33.cell? ⟨gb798, 0, none⟩ = some (.slice A0_0 l0_0.length c0_0) := (blk_cell BK798.out 0).trans rfl; have hcz35_1 : w33.cell? ⟨gb798, 1, none⟩ = some (.slice A0_1 l0_1.length c0_1) := (blk_cell BK798.out 1).trans rfl; have hcz35_2 : w33.cell? ⟨gb798, 2, none⟩ = some (.slice A0_2 l0_2.length c0_2) := (blk_cell BK798.out 2).trans rfl; have hcz35_3 : w33.cell? ⟨gb798, 3, none⟩ = some (.slice A0_3 l0_3.length c0_3) := (blk_cell BK798.out 3).trans rfl; have hcz35_4 : w33.cell? ⟨gb798, 4, none⟩ = some (.slice A0_4 l0_4.length c0_4) := (blk_cell BK798.out 4).trans rfl; have hfz35_0 := blk_frozen BK798.out 0; have hfz35_1 := blk_frozen BK798.out 1; have hfz35_2 := blk_frozen BK798.out 2; have hfz35_3 := blk_frozen BK798.out 3; have hfz35_4 := blk_frozen BK798.out 4; have hcz36_0 : w33.cell? ⟨gb799, 0, none⟩ = some (.slice A1_0 l1_0.length c1_0) := (blk_cell BK799.out 0).trans rfl; have hcz36_1 : w33.cell? ⟨gb799, 1, none⟩ = some (.slice A1_1 l1_1.length c1_1) := (blk_cell BK799.out 1).trans rfl; have hcz36_2 : w33.cell? ⟨gb799, 2, none⟩ = some (.slice A1_2 l1_2.length c1_2) := (blk_cell BK799.out 2).trans rfl; have hcz36_3 : w33.cell? ⟨gb799, 3, none⟩ = some (.slice A1_3 l1_3.length c1_3) := (blk_cell BK799.out 3).trans rfl; have hcz36_4 : w33.cell? ⟨gb799, 4, none⟩ = some (.slice A1_4 l1_4.length c1_4) := (blk_cell BK799.out 4).trans rfl; have hfz36_0 := blk_frozen BK799.out 0; have hfz36_1 := blk_frozen BK799.out 1; have hfz36_2 := blk_frozen BK799.out 2; have hfz36_3 := blk_frozen BK799.out 3; have hfz36_4 := blk_frozen BK799.out 4) | ((with_reducible refine gate_callee (f := 55) rfl ?_); refine goesL_ (some 9) rfl rfl Try.func55 (by kernel_rfl) rfl #[.slice A0_0 l0_0.length c0_0, .slice A1_0 l1_0.length c1_0] rfl (by (try simp only [List.map_toArray, List.map_cons, List.map_nil]); first | done | rfl | (simp only [List.length_drop, List.length_take]; rfl)) ?_; (with_reducible refine (slices_Equal_string_string.calls k _ _ l0_0 _ _ l1_0 false _ ?side1 ?side2 ?side3 ?side4 A3.out).mono ?_); (case side1 => repeat (first | exact (Kd.C_below HR0_0.out HB.out) | (with_reducible refine Kd.C_alloc ?_ _) | (with_reducible refine Kd.C_drewN ?_ _) | (with_reducible refine Kd.C_drew ?_))); (case side2 => exact HC0_0.out); (case side3 => repeat (first | exact (Kd.C_below HR1_0.out HB.out) | (with_reducible refine Kd.C_alloc ?_ _) | (with_reducible refine Kd.C_drewN ?_ _) | (with_reducible refine Kd.C_drew ?_))); (case side4 => exact HC1_0.out); rintro e w' ⟨rfl, ⟨nd, rfl⟩⟩; refine ⟨_, rfl, ?_⟩))
  go_ret
  exact ⟨by first | rfl | (simp [errW_none, errW_some] <;> rfl) | (simp [*, errW_none, errW_some] <;> rfl), by repeat (first | (with_reducible first | exact HB.out | apply below_alloc | apply pw_below_drewN | apply below_drew1 | refine below_set ?_ GE798.out | refine below_set ?_ GE799.out) | exact HB.out)⟩
end Go.Proofs.Ytmekkapacbdbeaa.P
namespace Go.Proofs.Ytmekkapacbdbeaa.P
open Go.RowKit Go.Proofs.YtmekkapacbdbeaaW.PrintWords
def stEq (s t : St) : Bool := decide (s = t)
theorem stEq_eq {s t : St} : stEq s t = (decide (s.now = t.now) && (decide (s.sure = t.sure) && (decide (s.last = t.last) && (decide (s.slast = t.slast) && decide (s.floors = t.floors))))) := by
 unfold stEq
 obtain ⟨a0, a1, a2, a3, a4⟩ := s
 obtain ⟨b0, b1, b2, b3, b4⟩ := t
 rw [Bool.eq_iff_iff]
 simp
theorem impl_StoreSame_c {w : World} {v u : Value} {s t : St} {q : Bool} (hv : StC w v s) (hu : StC w u t) (hq : stEq s t = q) :
  Calls Try.prog 22 #[v, u] w fun e w' => e = .returned (.bool q) ∧ Below w.heap.size w w' := by
 have hl := hv.lens
 have he : Ev (fun k => impl_StoreSame.f k s.now s.sure s.last s.slast s.floors t.now t.sure t.last t.slast t.floors) q := by
  unfold impl_StoreSame.f
  rw [← hq, stEq_eq]
  refine Ev.bind (slices_Equal_string_string_ev hl.1) ?_
  cases decide (s.now = t.now)
  ·exact Ev.now _
  refine Ev.bind (slices_Equal_string_string_ev hl.2.1) ?_
  cases decide (s.sure = t.sure)
  ·exact Ev.now _
  refine Ev.bind (slices_Equal_int_int_ev hl.2.2.1) ?_
  cases decide (s.last = t.last)
  ·exact Ev.now _
  refine Ev.bind (slices_Equal_int_int_ev hl.2.2.2.1) ?_
  cases decide (s.slast = t.slast)
  ·exact Ev.now _
  refine Ev.bind (slices_Equal_int_int_ev hl.2.2.2.2) ?_
  exact Ev.now _
 obtain ⟨k, hk⟩ := he.rounds
 obtain ⟨A0, c0, A1, c1, A2, c2, A3, c3, A4, c4, rfl, g0, g1, g2, g3, g4⟩ := hv
 obtain ⟨B0, d0, B1, d1, B2, d2, B3, d3, B4, d4, rfl, k0, k1, k2, k3, k4⟩ := hu
 exact impl_StoreSame.calls k A0 c0 s.now A1 c1 s.sure A2 c2 s.last A3 c3 s.slast A4 c4 s.floors B0 d0 t.now B1 d1 t.sure B2 d2 t.last B3 d3 t.slast B4 d4 t.floors _ w g0.1 g0.2 g1.1 g1.2 g2.1 g2.2 g3.1 g3.2 g4.1 g4.2 k0.1 k0.2 k1.1 k1.2 k2.1 k2.2 k3.1 k3.2 k4.1 k4.2 hk
end Go.Proofs.Ytmekkapacbdbeaa.P
namespace Go.Proofs.Ytmekkapacbdbeaa.P
open Go.RowKit Go.Proofs.YtmekkapacbdbeaaW.PrintWords Go.Proofs.YtmekkapacbdbeaaW.PrintLast Go.Proofs.YtmekkapacbdbeaaW.PrintMore
attribute [local go_sem] max2_int min2_int max_two min_two max_three min_three max_four min_four   
set_option linter.unusedVariables false
set_option linter.unusedSimpArgs false
end Go.Proofs.Ytmekkapacbdbeaa.P
namespace Go.Proofs.Ytmekkapacbdbeaa.P
open Go.RowKit Go.Proofs.YtmekkapacbdbeaaW.PrintWords Go.Proofs.YtmekkapacbdbeaaW.PrintLast Go.Proofs.YtmekkapacbdbeaaW.PrintMore
attribute [local go_sem] max2_int min2_int max_two min_two max_three min_three max_four min_four   
set_option linter.unusedVariables false
set_option linter.unusedSimpArgs false
end Go.Proofs.Ytmekkapacbdbeaa.P
namespace Go.Proofs.Ytmekkapacbdbeaa.P
open Go.RowKit Go.Proofs.YtmekkapacbdbeaaW.PrintWords Go.Proofs.YtmekkapacbdbeaaW.PrintLast Go.Proofs.YtmekkapacbdbeaaW.PrintMore
attribute [local go_sem] max2_int min2_int max_two min_two max_three min_three max_four min_four   
set_option linter.unusedVariables false
set_option linter.unusedSimpArgs false
end Go.Proofs.Ytmekkapacbdbeaa.P
namespace Go.Proofs.Ytmekkapacbdbeaa.P
open Go.RowKit Go.Proofs.YtmekkapacbdbeaaW.PrintWords Go.Proofs.YtmekkapacbdbeaaW.PrintLast Go.Proofs.YtmekkapacbdbeaaW.PrintMore
attribute [local go_sem] max2_int min2_int max_two min_two max_three min_three max_four min_four   
set_option linter.unusedVariables false
set_option linter.unusedSimpArgs false
end Go.Proofs.Ytmekkapacbdbeaa.P
namespace Go.Proofs.Ytmekkapacbdbeaa.P
open Go.RowKit Go.Proofs.YtmekkapacbdbeaaW.PrintWords Go.Proofs.YtmekkapacbdbeaaW.PrintLast Go.Proofs.YtmekkapacbdbeaaW.PrintMore
attribute [local go_sem] max2_int min2_int max_two min_two max_three min_three max_four min_four   
set_option linter.unusedVariables false
set_option linter.unusedSimpArgs false
end Go.Proofs.Ytmekkapacbdbeaa.P
namespace Go.Proofs.Ytmekkapacbdbeaa.P
open Go.RowKit Go.Proofs.YtmekkapacbdbeaaW.PrintWords Go.Proofs.YtmekkapacbdbeaaW.PrintLast Go.Proofs.YtmekkapacbdbeaaW.PrintMore
attribute [local go_sem] max2_int min2_int max_two min_two max_three min_three max_four min_four   
set_option linter.unusedVariables false
set_option linter.unusedSimpArgs false
end Go.Proofs.Ytmekkapacbdbeaa.P
namespace Go.Proofs.Ytmekkapacbdbeaa.P
open Go.RowKit Go.Proofs.YtmekkapacbdbeaaW.PrintWords Go.Proofs.YtmekkapacbdbeaaW.PrintLast Go.Proofs.YtmekkapacbdbeaaW.PrintMore
end Go.Proofs.Ytmekkapacbdbeaa.P
namespace Go.Proofs.Ytmekkapacbdbeaa.P
open Go.RowKit Go.Proofs.YtmekkapacbdbeaaW.PrintWords
theorem stEq_self (s : St) : stEq s s = true := by unfold stEq; exact decide_eq_true rfl
theorem stEq_of {s t : St} (h : s = t) : stEq s t = true := by subst h; exact stEq_self s
theorem StC_none {w : World} : StC w (.agg #[.slice none 0 0, .slice none 0 0, .slice none 0 0, .slice none 0 0, .slice none 0 0]) stNone := (StR.zero 0 0).toC
section
variable {s t u : St}
theorem none_fall (h : fallSt s = t) (hk : stOk s = false) : t = stNone := by rw [← h]; unfold fallSt; rw [if_neg (by rw [hk]; decide)]
theorem none_sync (h : syncSt s = t) (hk : stOk s = false) : t = stNone := by rw [← h]; unfold syncSt; rw [if_neg (by rw [hk]; decide)]
theorem fall_eq (hk : stOk s = true) : fallSt s = ⟨s.sure, s.sure, s.slast, s.slast, s.floors⟩ := by unfold fallSt; rw [if_pos hk]
theorem sync_eq (hk : stOk s = true) : syncSt s = ⟨s.now, s.now, s.last, s.last, s.floors⟩ := by unfold syncSt; rw [if_pos hk]
theorem ok_fall (h : fallSt s = t) (hk : stOk s = true) : stOk t = true := by
 rw [← h, fall_eq hk]
 obtain ⟨⟨l0, l1, l2, l3, l4⟩, g0, g1, g2⟩ := stOk_iff.1 hk
 exact stOk_iff.2 ⟨⟨l1, l1, l3, l3, l4⟩, g1, g1, fun j hj => by
  have := g2 j hj
  show 0 ≤ s.slast.getD j 0 ∧ s.slast.getD j 0 ≤ s.slast.getD j 0 ∧ s.slast.getD j 0 ≤ 1000 ∧ 0 ≤ s.floors.getD j 0 ∧ s.floors.getD j 0 ≤ 100
  omega⟩
theorem ok_sync (h : syncSt s = t) (hk : stOk s = true) : stOk t = true := by
 rw [← h, sync_eq hk]
 obtain ⟨⟨l0, l1, l2, l3, l4⟩, g0, g1, g2⟩ := stOk_iff.1 hk
 exact stOk_iff.2 ⟨⟨l0, l0, l2, l2, l4⟩, g0, g0, fun j hj => by
  have := g2 j hj
  show 0 ≤ s.last.getD j 0 ∧ s.last.getD j 0 ≤ s.last.getD j 0 ∧ s.last.getD j 0 ≤ 1000 ∧ 0 ≤ s.floors.getD j 0 ∧ s.floors.getD j 0 ≤ 100
  omega⟩
theorem fall_fall (h : fallSt s = t) (hk : stOk s = true) : fallSt t = t := by
 have hk' := ok_fall h hk
 rw [fall_eq hk', ← h, fall_eq hk]
theorem fall_sync (h : syncSt s = t) (hk : stOk s = true) : fallSt t = t := by
 have hk' := ok_sync h hk
 rw [fall_eq hk', ← h, sync_eq hk]
theorem sync_fall (h : fallSt s = t) (hk : stOk s = true) : syncSt t = t := by
 have hk' := ok_fall h hk
 rw [sync_eq hk', ← h, fall_eq hk]
theorem floors_fall (h : fallSt s = t) (hk : stOk s = true) : t.floors = s.floors := by rw [← h, fall_eq hk]
end
end Go.Proofs.Ytmekkapacbdbeaa.P
namespace Go.Proofs.Ytmekkapacbdbeaa.P
open Go.RowKit Go.Proofs.YtmekkapacbdbeaaW.PrintWords Go.Proofs.YtmekkapacbdbeaaW.PrintLast Go.Proofs.YtmekkapacbdbeaaW.PrintMore
attribute [local go_sem] max2_int min2_int max_two min_two max_three min_three max_four min_four   
set_option linter.unusedVariables false
set_option linter.unusedSimpArgs false
def laws_wpNums.l0 : Nat → List Int → List Int → Int → Option (Bool)
 | 0, _, _, _ => none
 | k + 1, x0, x1, x5 => if x5 < (x0.length : Int) then (if 0 ≤ x5 then (if x5 < (x1.length : Int) then (if (rd x0 x5) = (rd x1 x5) then (laws_wpNums.l0 k x0 x1 (wrap64 (x5 + 1))) else (some false)) else (none)) else (none)) else (some true)
def laws_wpNums.f (k : Nat) (l0 : List Int) (l1 : List Int) : Option (Bool) := if (l0.length : Int) = (l1.length : Int) then (laws_wpNums.l0 k l0 l1 0) else (some false)
set_option maxHeartbeats 8000000 in
set_option maxRecDepth 100000 in
theorem laws_wpNums.calls (k : Nat) (A0 : Option Addr) (c0 : Nat) (l0 : List Int) (A1 : Option Addr) (c1 : Nat) (l1 : List Int) (r : Bool) (w : World) (hr0 : Kd.C (Kd.int .i64) w A0 l0.length l0) (hc0 : l0.length ≤ c0) (hr1 : Kd.C (Kd.int .i64) w A1 l1.length l1) (hc1 : l1.length ≤ c1) (h : laws_wpNums.f k l0 l1 = some r) :
  Calls Try.prog 18 #[.slice A0 l0.length c0, .slice A1 l1.length c1] w fun e w' => e = .returned (.bool r) ∧ Drawn0 w w' := by
 have HR0 := Ak hr0
 have HC0 := Ak hc0
 clear hr0 hc0
 have HR1 := Ak hr1
 have HC1 := Ak hc1
 clear hr1 hc1
 have H : (if (l0.length : Int) = (l1.length : Int) then (laws_wpNums.l0 k l0 l1 0) else (some false)) = some r := h
 clear h
 by_cases c3 : (l0.length : Int) = (l1.length : Int)
 ·rw [if_pos c3] at H
  have c3b0 : ((l0.length : Int) == (l1.length : Int)) = true := beq_iff_eq.mpr c3
  have c3b1 : ((l0.length : Int) != (l1.length : Int)) = false := bne_eq_false_iff_eq.mpr c3
  have c3b2 : (l0.length == l1.length) = true := by first | simpa using c3 | (simp at c3 ⊢; omega)
  clear c3
  have H' := Ak H
  clear H
  go_enter Try.func18, Try.ntmps18
  go_wp2
  repeat (go_quiet (fail); try go_wp2)
  go_loopg [5] k (fun kq v5 w' => ∃ (x5_1 : Int), v5 = .int .i64 x5_1 ∧ Aside0 (laws_wpNums.l0 kq l0 l1 x5_1 = some r) ∧ Aside0 (kq ≤ k) ∧ Drawn0 w w')
  case atStart => exact ⟨(0), (by first | rfl | (simp; done) | (simp [*]; done)), H', ⟨Nat.le_refl _⟩, by repeat (first | exact Drawn0.refl _ | apply Drawn0.step)⟩
  case round =>
   clear H'
   try clear c1
   try clear p2
   try clear c3
   try clear c3b0
   try clear c3b1
   try clear c3b2
   obtain ⟨x5_1, rfl, HA, HK1, ⟨m1, rfl⟩⟩ := hrel
   cases gk with
   | zero => exact absurd HA.out (by simp [laws_wpNums.l0])
   | succ k1 =>
    have H := HA.out
    clear HA
    simp only [laws_wpNums.l0] at H
    by_cases c4 : x5_1 < (l0.length : Int)
    ·rw [if_pos c4] at H
     have c4b0 : decide (x5_1 < (l0.length : Int)) = true := decide_eq_true c4
     clear c4
     by_cases c5 : 0 ≤ x5_1
     ·rw [if_pos c5] at H
      have c5b0 : decide (0 ≤ x5_1) = true := decide_eq_true c5
      clear c5
      by_cases c6 : x5_1 < (l1.length : Int)
      ·rw [if_pos c6] at H
       have c6b0 : decide (x5_1 < (l1.length : Int)) = true := decide_eq_true c6
       clear c6
       by_cases c7 : (rd l0 x5_1) = (rd l1 x5_1)
       ·rw [if_pos c7] at H
        have c7b0 : ((rd l0 x5_1) == (rd l1 x5_1)) = true := beq_iff_eq.mpr c7
        have c7b1 : ((rd l0 x5_1) != (rd l1 x5_1)) = false := bne_eq_false_iff_eq.mpr c7
        clear c7
        have H' := Ak H
        clear H
        have p744 : 0 ≤ (x5_1 : Int) := of_decide_eq_true (by first | (with_reducible assumption) | assumption)
        have q744 : x5_1 < (l0.length : Int) := of_decide_eq_true (by first | (with_reducible assumption) | assumption)
        obtain ⟨ad744, e744, hx744_0⟩ := Kd.at_int HR0.out x5_1 p744 q744
        cases e744
        replace p744 := eq_true p744
        replace q744 := eq_true q744
        have p745 : 0 ≤ (x5_1 : Int) := of_decide_eq_true (by first | (with_reducible assumption) | assumption)
        have q745 : x5_1 < (l1.length : Int) := of_decide_eq_true (by first | (with_reducible assumption) | assumption)
        obtain ⟨ad745, e745, hx745_0⟩ := Kd.at_int HR1.out x5_1 p745 q745
        cases e745
        replace p745 := eq_true p745
        replace q745 := eq_true q745
        go_wp2
        repeat (go_quiet (fail); try go_wp2)
        go_roundg k1
        case measure => have := HK1.out; omega
        case rel => exact ⟨(wrap64 (x5_1 + 1)), (by first | rfl | (simp; done) | (simp [*]; done)), H', ⟨by have := HK1.out; omega⟩, by repeat (first | exact Drawn0.refl _ | apply Drawn0.step)⟩
       ·rw [if_neg c7] at H
        have c7b0 : ((rd l0 x5_1) == (rd l1 x5_1)) = false := beq_eq_false_iff_ne.mpr c7
        have c7b1 : ((rd l0 x5_1) != (rd l1 x5_1)) = true := bne_iff_ne.mpr c7
        obtain rfl := Option.some.inj H
        have p744 : 0 ≤ (x5_1 : Int) := of_decide_eq_true (by first | (with_reducible assumption) | assumption)
        have q744 : x5_1 < (l0.length : Int) := of_decide_eq_true (by first | (with_reducible assumption) | assumption)
        obtain ⟨ad744, e744, hx744_0⟩ := Kd.at_int HR0.out x5_1 p744 q744
        cases e744
        replace p744 := eq_true p744
        replace q744 := eq_true q744
        have p745 : 0 ≤ (x5_1 : Int) := of_decide_eq_true (by first | (with_reducible assumption) | assumption)
        have q745 : x5_1 < (l1.length : Int) := of_decide_eq_true (by first | (with_reducible assumption) | assumption)
        obtain ⟨ad745, e745, hx745_0⟩ := Kd.at_int HR1.out x5_1 p745 q745
        cases e745
        replace p745 := eq_true p745
        replace q745 := eq_true q745
        go_wp2
        repeat (go_quiet (fail); try go_wp2)
        go_ret
        exact ⟨by first | rfl | (simp; done) | (simp [*]; done), by repeat (first | exact Drawn0.refl _ | apply Drawn0.step)⟩
      ·rw [if_neg c6] at H
       exact absurd H (by simp)
     ·rw [if_neg c5] at H
      exact absurd H (by simp)
    ·rw [if_neg c4] at H
     have c4b0 : decide (x5_1 < (l0.length : Int)) = false := decide_eq_false c4
     clear c4
     obtain rfl := Option.some.inj H
     go_wp2
     repeat (go_quiet (fail); try go_wp2)
     go_ret
     exact ⟨by first | rfl | (simp; done) | (simp [*]; done), by repeat (first | exact Drawn0.refl _ | apply Drawn0.step)⟩
 ·rw [if_neg c3] at H
  have c3b0 : ((l0.length : Int) == (l1.length : Int)) = false := beq_eq_false_iff_ne.mpr c3
  have c3b1 : ((l0.length : Int) != (l1.length : Int)) = true := bne_iff_ne.mpr c3
  have c3b2 : (l0.length == l1.length) = false := by first | simpa using c3 | (simp at c3 ⊢; omega)
  obtain rfl := Option.some.inj H
  go_enter Try.func18, Try.ntmps18
  go_wp2
  repeat (go_quiet (fail); try go_wp2)
  go_ret
  exact ⟨by first | rfl | (simp; done) | (simp [*]; done), by repeat (first | exact Drawn0.refl _ | apply Drawn0.step)⟩
end Go.Proofs.Ytmekkapacbdbeaa.P
namespace Go.Proofs.Ytmekkapacbdbeaa.P
open Go.RowKit Go.Proofs.YtmekkapacbdbeaaW.PrintWords Go.Proofs.YtmekkapacbdbeaaW.PrintLast Go.Proofs.YtmekkapacbdbeaaW.PrintMore
attribute [local go_sem] max2_int min2_int max_two min_two max_three min_three max_four min_four   
set_option linter.unusedVariables false
set_option linter.unusedSimpArgs false
end Go.Proofs.Ytmekkapacbdbeaa.P
namespace Go.Proofs.Ytmekkapacbdbeaa.P
open Go.RowKit Go.Proofs.YtmekkapacbdbeaaW.PrintWords
theorem laws_wpNums_ev {a b : List Int} (ha : a.length ≤ 9223372036854775807) : Ev (fun k => laws_wpNums.f k a b) (decide (a = b)) := by
 by_cases hl : (a.length : Int) = (b.length : Int)
 ·have hl' : a.length = b.length := by omega
  refine Ev.congr (f := fun k => laws_wpNums.l0 k a b 0) (fun k => by unfold laws_wpNums.f; rw [if_pos hl]) ?_
  have h := loop_all (n := a.length) (G := fun k i => laws_wpNums.l0 k a b (i : Int)) (E := fun j => decide (a[j]? = b[j]?)) (z := true) (fun k i hi => by
   show laws_wpNums.l0 (k + 1) a b (i : Int) = _
   rw [laws_wpNums.l0, if_pos (by omega), if_pos (by omega), if_pos (by omega), rd_nat hi, rd_nat (l := b) (by omega), w64s hi ha]
   simp [List.getElem?_eq_getElem hi, List.getElem?_eq_getElem (l := b) (i := i) (by omega)]) (fun k => by
   show laws_wpNums.l0 (k + 1) a b (a.length : Int) = _
   rw [laws_wpNums.l0, if_neg (by omega)]) a.length 0 (by omega)
  rw [all_eq hl', Bool.and_true] at h
  exact h
 ·refine Ev.congr (f := fun _ => some false) (fun k => by unfold laws_wpNums.f; rw [if_neg hl]) ?_
  rw [decide_eq_false (fun h => hl (by rw [h]))]
  exact Ev.now _
end Go.Proofs.Ytmekkapacbdbeaa.P
namespace Go.Proofs.Ytmekkapacbdbeaa.P
open Go.RowKit Go.Proofs.YtmekkapacbdbeaaW.PrintWords Go.Proofs.YtmekkapacbdbeaaW.PrintLast Go.Proofs.YtmekkapacbdbeaaW.PrintMore
section
variable {w : World} {A B : Option Addr} {n m c d : Nat} {a b : List Int} {x y : List ByteArray} {q : Bool}
def IsC (w : World) (A : Option Addr) (n c : Nat) (a : List Int) : Prop := n = a.length ∧ Kd.C (Kd.int .i64) w A a.length a ∧ a.length ≤ c
theorem wpNums_c (ha : IsC w A n c a) (hb : IsC w B m d b) (hq : decide (a = b) = q) :
  Calls Try.prog 18 #[.slice A n c, .slice B m d] w fun e w' => e = .returned (.bool q) ∧ Below w.heap.size w w' := by
 obtain ⟨rfl, a1, a2⟩ := ha
 obtain ⟨rfl, b1, b2⟩ := hb
 obtain ⟨k, hk⟩ := (laws_wpNums_ev (a := a) (b := b) (Kd.C_max a1)).rounds
 rw [hq] at hk
 exact (laws_wpNums.calls k A c a B d b q w a1 a2 b1 b2 hk).mono fun _ _ ⟨e, h⟩ => ⟨e, h.below⟩
end
section
variable {w : World} {A : Option Addr} {n c : Nat} {u0 u1 u2 u3 u4 : Value} {s : St}
theorem StC.floors_row (h : StC w (.agg #[u0, u1, u2, u3, .slice A n c]) s) : IsC w A n c s.floors := by
 obtain ⟨A0, c0, A1, c1, A2, c2, A3, c3, A4, c4, he, g0, g1, g2, g3, g4⟩ := h
 injection he with he
 injection he with he
 injection he with e0 he
 injection he with e1 he
 injection he with e2 he
 injection he with e3 he
 injection he with e4 he
 injection e4 with f0 f1 f2
 subst f0 f1 f2
 exact ⟨rfl, g4⟩
end
end Go.Proofs.Ytmekkapacbdbeaa.P
namespace Go.Proofs.Ytmekkapacbdbeaa.P
open Go.RowKit Go.Proofs.YtmekkapacbdbeaaW.PrintWords Go.Proofs.YtmekkapacbdbeaaW.PrintLast Go.Proofs.YtmekkapacbdbeaaW.PrintMore
set_option linter.unusedVariables false
set_option linter.unusedSimpArgs false
set_option maxHeartbeats 8000000 in
set_option maxRecDepth 100000 in
theorem FnStoreFall_walk {w : World} {A : Option Addr} {c : Nat} {l : List Int} (hl : Kd.C (Kd.int .u8) w A l.length l) (hc : l.length ≤ c) (hb : ∀ x ∈ l, 0 ≤ x ∧ x ≤ 255) :
  Calls Try.prog 7 #[.slice A l.length c] w fun e w' => e = .returned (.bool true) ∧ Below w.heap.size w w' := by
 have HL := Ak hl
 have HLC := Ak hc
 have HLB := Ak hb
 have HT0 := Ak (Nat.le_refl w.heap.size)
 clear hl hc hb
 have hu26 := Try.underlying26
 go_enter Try.func7, Try.ntmps7
 go_upto_if 8 with (fail)
 by_cases c1 : (l.length : Int) > 1048576
 ·have d2 : decide (1048576 < (l.length : Int)) = true := decide_eq_true (by omega)
  (first | rw [d2] | (simp only [i64_w, i32_w]; rw [d2]) | skip)
  have K3 := Ak c1
  clear c1
  try go_wp2
  go_ret
  exact ⟨rfl, (Below.refl _ _)⟩
 ·have d2 : decide (1048576 < (l.length : Int)) = false := decide_eq_false (by omega)
  (first | rw [d2] | (simp only [i64_w, i32_w]; rw [d2]) | skip)
  have K3 := Ak c1
  clear c1
  go_wp2_with (fail)
  refine (DrawStoreFall_c (Kd.C_below HL.out (Below.refl _ _)) HLC.out HLB.out).mono ?_
  rintro e W12 ⟨u4, t5, rfl, hr6, hs7, hz8, hb13⟩
  have HB14 := Ak hb13
  clear hb13
  have HRs9 := Ak hr6
  have HS10 := Ak hs7
  have HZ11 := Ak hz8
  obtain ⟨as9_0, ds9_0, as9_1, ds9_1, as9_2, ds9_2, as9_3, ds9_3, as9_4, ds9_4, rfl, _⟩ := hr6.toC
  clear hr6 hs7 hz8
  go_wp2_with (first | ((with_reducible refine gate_dst (N := 3) rfl ?_); refine ev_box ?hg (N := 3) ?hd (cs := #[.slice none 0 0, .slice none 0 0, .slice none 0 0, .slice none 0 0, .slice none 0 0]) (t := 26) ?hr ?_; (case hd => rfl); (case hg => rfl); (case hr => first | (go_simp; done) | (go_simp; rfl)); intro g3 W15 HG18 BK16 HB17) | ((with_reducible refine gate_store (t := 26) (p := 3) rfl ?_); refine ev_store rfl rfl rfl (g := g3) rfl (cs := #[.slice as9_0 t5.now.length ds9_0, .slice as9_1 t5.sure.length ds9_1, .slice as9_2 t5.last.length ds9_2, .slice as9_3 t5.slast.length ds9_3, .slice as9_4 t5.floors.length ds9_4]) rfl BK16.out (by kernel_rfl) rfl rfl ?_; intro W19 BK20 HB21; have HB22 := Ak (below_new HG18.out HB17.out HB21.out); clear BK16 HB17 HB21) | ((with_reducible refine gate_dst (N := 11) rfl ?_); refine ev_load rfl (N := 11) rfl rfl (g := g3) rfl (cs := #[.slice as9_0 t5.now.length ds9_0, .slice as9_1 t5.sure.length ds9_1, .slice as9_2 t5.last.length ds9_2, .slice as9_3 t5.slast.length ds9_3, .slice as9_4 t5.floors.length ds9_4]) BK20.out hu26 rfl (by kernel_rfl) ?_))
  obtain ⟨t25, ht_⟩ : ∃ x_, fallSt t5 = x_ := ⟨_, rfl⟩
  have HT26 := Ak ht_
  clear ht_
  refine (impl_StoreFall_c (StI.toC (StI.below HRs9.out HB22.out)) HZ11.out HS10.out HT26.out).mono ?_
  rintro e W28 ⟨u23, rfl, hr24, hb29⟩
  have HB30 := Ak hb29
  clear hb29
  have HRs27 := Ak hr24
  obtain ⟨as27_0, ds27_0, as27_1, ds27_1, as27_2, ds27_2, as27_3, ds27_3, as27_4, ds27_4, rfl, _⟩ := hr24.toC
  clear hr24
  go_wp2_with (first | ((with_reducible refine gate_dst (N := 4) rfl ?_); refine ev_box ?hg (N := 4) ?hd (cs := #[.slice none 0 0, .slice none 0 0, .slice none 0 0, .slice none 0 0, .slice none 0 0]) (t := 26) ?hr ?_; (case hd => rfl); (case hg => rfl); (case hr => first | (go_simp; done) | (go_simp; rfl)); intro g4 W31 HG34 BK32 HB33) | ((with_reducible refine gate_store (t := 26) (p := 4) rfl ?_); refine ev_store rfl rfl rfl (g := g4) rfl (cs := #[.slice as27_0 t25.now.length ds27_0, .slice as27_1 t25.sure.length ds27_1, .slice as27_2 t25.last.length ds27_2, .slice as27_3 t25.slast.length ds27_3, .slice as27_4 t25.floors.length ds27_4]) rfl BK32.out (by kernel_rfl) rfl rfl ?_; intro W35 BK36 HB37; have HB38 := Ak (below_new HG34.out HB33.out HB37.out); clear BK32 HB33 HB37) | ((with_reducible refine gate_dst (N := 13) rfl ?_); refine ev_load rfl (N := 13) rfl rfl (g := g3) rfl (cs := #[.slice as9_0 t5.now.length ds9_0, .slice as9_1 t5.sure.length ds9_1, .slice as9_2 t5.last.length ds9_2, .slice as9_3 t5.slast.length ds9_3, .slice as9_4 t5.floors.length ds9_4]) (Bk.below BK20.out (below_step HB30.out HB38.out)) hu26 rfl (by kernel_rfl) ?_))
  obtain ⟨t41, ht_⟩ : ∃ x_, syncSt t5 = x_ := ⟨_, rfl⟩
  have HT42 := Ak ht_
  clear ht_
  refine (impl_StoreSync_c (StI.toC (StI.below HRs9.out (below_step (below_step HB22.out HB30.out) HB38.out))) HZ11.out HS10.out HT42.out).mono ?_
  rintro e W44 ⟨u39, rfl, hr40, hb45⟩
  have HB46 := Ak hb45
  clear hb45
  have HRs43 := Ak hr40
  obtain ⟨as43_0, ds43_0, as43_1, ds43_1, as43_2, ds43_2, as43_3, ds43_3, as43_4, ds43_4, rfl, _⟩ := hr40.toC
  clear hr40
  go_wp2_with (first | ((with_reducible refine gate_dst (N := 5) rfl ?_); refine ev_box ?hg (N := 5) ?hd (cs := #[.slice none 0 0, .slice none 0 0, .slice none 0 0, .slice none 0 0, .slice none 0 0]) (t := 26) ?hr ?_; (case hd => rfl); (case hg => rfl); (case hr => first | (go_simp; done) | (go_simp; rfl)); intro g5 W47 HG50 BK48 HB49) | ((with_reducible refine gate_store (t := 26) (p := 5) rfl ?_); refine ev_store rfl rfl rfl (g := g5) rfl (cs := #[.slice as43_0 t41.now.length ds43_0, .slice as43_1 t41.sure.length ds43_1, .slice as43_2 t41.last.length ds43_2, .slice as43_3 t41.slast.length ds43_3, .slice as43_4 t41.floors.length ds43_4]) rfl BK48.out (by kernel_rfl) rfl rfl ?_; intro W51 BK52 HB53; have HB54 := Ak (below_new HG50.out HB49.out HB53.out); clear BK48 HB49 HB53))
  refine start_ (n := 12) (S := fun w' => Bk w' g4 #[.slice as27_0 t25.now.length ds27_0, .slice as27_1 t25.sure.length ds27_1, .slice as27_2 t25.last.length ds27_2, .slice as27_3 t25.slast.length ds27_3, .slice as27_4 t25.floors.length ds27_4] 26 ∧ Bk w' g3 #[.slice as9_0 t5.now.length ds9_0, .slice as9_1 t5.sure.length ds9_1, .slice as9_2 t5.last.length ds9_2, .slice as9_3 t5.slast.length ds9_3, .slice as9_4 t5.floors.length ds9_4] 26 ∧ Bk w' g5 #[.slice as43_0 t41.now.length ds43_0, .slice as43_1 t41.sure.length ds43_1, .slice as43_2 t41.last.length ds43_2, .slice as43_3 t41.slast.length ds43_3, .slice as43_4 t41.floors.length ds43_4] 26) (ds := []) #[false, false, false, false, false, false, false, false, false, false, false, false] (by kernel_rfl) rfl rfl ⟨(show Bk W51 g4 #[.slice as27_0 t25.now.length ds27_0, .slice as27_1 t25.sure.length ds27_1, .slice as27_2 t25.last.length ds27_2, .slice as27_3 t25.slast.length ds27_3, .slice as27_4 t25.floors.length ds27_4] 26 from (Bk.below BK36.out (below_step HB46.out HB54.out))), (show Bk W51 g3 #[.slice as9_0 t5.now.length ds9_0, .slice as9_1 t5.sure.length ds9_1, .slice as9_2 t5.last.length ds9_2, .slice as9_3 t5.slast.length ds9_3, .slice as9_4 t5.floors.length ds9_4] 26 from (Bk.below BK20.out (below_step (below_step (below_step HB30.out HB38.out) HB46.out) HB54.out))), (show Bk W51 g5 #[.slice as43_0 t41.now.length ds43_0, .slice as43_1 t41.sure.length ds43_1, .slice as43_2 t41.last.length ds43_2, .slice as43_3 t41.slast.length ds43_3, .slice as43_4 t41.floors.length ds43_4] 26 from BK52.out)⟩ (fun hHeld => ?_)
  clear hHeld
  refine world_at (w := W51) (below_drew0 _) (fun W55 HB56 => ?_)
  refine take_ (i := 0) (N := some 15) (v := .agg #[.slice as27_0 t25.now.length ds27_0, .slice as27_1 t25.sure.length ds27_1, .slice as27_2 t25.last.length ds27_2, .slice as27_3 t25.slast.length ds27_3, .slice as27_4 t25.floors.length ds27_4]) (a' := ?_) #[true, false, false, false, false, false, false, false, false, false, false, false] rfl rfl (by kernel_rfl) (fun _ _ _ h => h) (Or.inl ⟨by rfl, ?_⟩) ⟨(Bk.below BK36.out (below_step (below_step HB46.out HB54.out) HB56.out)), (Bk.below BK20.out (below_step (below_step (below_step (below_step HB30.out HB38.out) HB46.out) HB54.out) HB56.out)), (Bk.below BK52.out HB56.out)⟩ ?_ ?_
  ·rintro w' ⟨s0_, s1_, s2_⟩
   exact run_load_ev rfl rfl s0_ hu26 rfl (by kernel_rfl)
  rotate_left
  ·simp only [Act.put, List.setIfInBounds_toArray, List.set_cons_zero, List.set_cons_succ, i64_w, i32_w]
   rfl
  refine take_ (i := 1) (N := some 16) (v := .agg #[.slice as9_0 t5.now.length ds9_0, .slice as9_1 t5.sure.length ds9_1, .slice as9_2 t5.last.length ds9_2, .slice as9_3 t5.slast.length ds9_3, .slice as9_4 t5.floors.length ds9_4]) (a' := ?_) #[true, true, false, false, false, false, false, false, false, false, false, false] rfl rfl (by kernel_rfl) (fun _ _ _ h => h) (Or.inl ⟨by rfl, ?_⟩) ⟨(Bk.below BK36.out (below_step (below_step HB46.out HB54.out) HB56.out)), (Bk.below BK20.out (below_step (below_step (below_step (below_step HB30.out HB38.out) HB46.out) HB54.out) HB56.out)), (Bk.below BK52.out HB56.out)⟩ ?_ ?_
  ·rintro w' ⟨s0_, s1_, s2_⟩
   exact run_load_ev rfl rfl s1_ hu26 rfl (by kernel_rfl)
  rotate_left
  ·simp only [Act.put, List.setIfInBounds_toArray, List.set_cons_zero, List.set_cons_succ, i64_w, i32_w]
   rfl
  have E57 := Ak ((below_step (below_step (below_step (below_step (below_step (below_step HB14.out HB22.out) HB30.out) HB38.out) HB46.out) HB54.out) HB56.out))
  have F58 := Ak ((Bk.below BK20.out (below_step (below_step (below_step (below_step HB30.out HB38.out) HB46.out) HB54.out) HB56.out)))
  have F59 := Ak ((StI.below HRs9.out (below_step (below_step (below_step (below_step (below_step HB22.out HB30.out) HB38.out) HB46.out) HB54.out) HB56.out)))
  have F60 := Ak ((Bk.below BK36.out (below_step (below_step HB46.out HB54.out) HB56.out)))
  have F61 := Ak ((StR.below HRs27.out (below_step (below_step (below_step HB38.out HB46.out) HB54.out) HB56.out)))
  have F62 := Ak ((Bk.below BK52.out HB56.out))
  have F63 := Ak ((StR.below HRs43.out (below_step HB54.out HB56.out)))
  refine one_ (i := 2) (N := some 17) #[true, true, true, false, false, false, false, false, false, false, false, false] rfl rfl (by kernel_rfl) (by decide) (fun K hK => ?_)
  refine goes_ Try.func35 (by kernel_rfl) rfl #[.agg #[.slice as9_0 t5.now.length ds9_0, .slice as9_1 t5.sure.length ds9_1, .slice as9_2 t5.last.length ds9_2, .slice as9_3 t5.slast.length ds9_3, .slice as9_4 t5.floors.length ds9_4]] (by rfl) rfl rfl (by (try simp only [List.map_toArray, List.map_cons, List.map_nil]); first | done | rfl) ?_
  refine (spec_StoreFall_c (StI.toC F59.out) HZ11.out HS10.out HT26.out).mono ?_
  rintro e W67 ⟨u64, rfl, hr65, hb68⟩
  have HB69 := Ak hb68
  clear hb68
  have HRs66 := Ak hr65
  obtain ⟨as66_0, ds66_0, as66_1, ds66_1, as66_2, ds66_2, as66_3, ds66_3, as66_4, ds66_4, rfl, _⟩ := hr65.toC
  clear hr65
  refine ⟨_, rfl, ?_⟩
  refine hK.out _ _ ⟨(Bk.below F60.out HB69.out), (Bk.below F58.out HB69.out), (Bk.below F62.out HB69.out)⟩ (fun hHeld => ?_)
  clear hHeld hK K
  refine norm_ (a' := ?_) ?_ ?_
  rotate_left
  ·show Act.put _ (some 17) _ = _
   simp only [Act.put, List.setIfInBounds_toArray, List.set_cons_zero, List.set_cons_succ, i64_w, i32_w]
   rfl
  refine one_ (i := 3) (N := some 18) #[true, true, true, true, false, false, false, false, false, false, false, false] rfl rfl (by kernel_rfl) (by decide) (fun K hK => ?_)
  refine goes_ Try.func22 (by kernel_rfl) rfl #[.agg #[.slice as27_0 t25.now.length ds27_0, .slice as27_1 t25.sure.length ds27_1, .slice as27_2 t25.last.length ds27_2, .slice as27_3 t25.slast.length ds27_3, .slice as27_4 t25.floors.length ds27_4], .agg #[.slice as66_0 t25.now.length ds66_0, .slice as66_1 t25.sure.length ds66_1, .slice as66_2 t25.last.length ds66_2, .slice as66_3 t25.slast.length ds66_3, .slice as66_4 t25.floors.length ds66_4]] (by rfl) rfl rfl (by (try simp only [List.map_toArray, List.map_cons, List.map_nil]); first | done | rfl) ?_
  refine (impl_StoreSame_c (StR.toC (StR.below F61.out HB69.out)) (StR.toC HRs66.out) (stEq_self _)).mono ?_
  rintro e W70 ⟨rfl, hb71⟩
  have HB72 := Ak hb71
  clear hb71
  refine ⟨_, rfl, ?_⟩
  refine hK.out _ _ ⟨(Bk.below F60.out (below_step HB69.out HB72.out)), (Bk.below F58.out (below_step HB69.out HB72.out)), (Bk.below F62.out (below_step HB69.out HB72.out))⟩ (fun hHeld => ?_)
  clear hHeld hK K
  refine norm_ (a' := ?_) ?_ ?_
  rotate_left
  ·show Act.put _ (some 18) _ = _
   simp only [Act.put, List.setIfInBounds_toArray, List.set_cons_zero, List.set_cons_succ, i64_w, i32_w]
   rfl
  refine pure_ (i := 4) (N := some 19) (v := ?_) (a' := ?_) #[true, true, true, true, true, false, false, false, false, false, false, false] rfl rfl (by kernel_rfl) (fun _ _ _ h => h) (Or.inl ⟨by rfl, ?_⟩) ?_ ?_
  rotate_left
  ·intro w'
   go_simp
   with_reducible rfl
  rotate_left
  ·simp only [Act.put, List.setIfInBounds_toArray, List.set_cons_zero, List.set_cons_succ, i64_w, i32_w]
   rfl
  refine pure_ (i := 5) (N := some 20) (v := ?_) (a' := ?_) #[true, true, true, true, true, true, false, false, false, false, false, false] rfl rfl (by kernel_rfl) (fun _ _ _ h => h) (Or.inl ⟨by rfl, ?_⟩) ?_ ?_
  rotate_left
  ·intro w'
   go_simp
   with_reducible rfl
  rotate_left
  ·simp only [Act.put, List.setIfInBounds_toArray, List.set_cons_zero, List.set_cons_succ, i64_w, i32_w]
   rfl
  refine take_ (i := 6) (N := some 21) (v := .agg #[.slice as43_0 t41.now.length ds43_0, .slice as43_1 t41.sure.length ds43_1, .slice as43_2 t41.last.length ds43_2, .slice as43_3 t41.slast.length ds43_3, .slice as43_4 t41.floors.length ds43_4]) (a' := ?_) #[true, true, true, true, true, true, true, false, false, false, false, false] rfl rfl (by kernel_rfl) (fun _ _ _ h => h) (Or.inl ⟨by rfl, ?_⟩) ⟨(Bk.below F60.out (below_step HB69.out HB72.out)), (Bk.below F58.out (below_step HB69.out HB72.out)), (Bk.below F62.out (below_step HB69.out HB72.out))⟩ ?_ ?_
  ·rintro w' ⟨s0_, s1_, s2_⟩
   exact run_load_ev rfl rfl s2_ hu26 rfl (by kernel_rfl)
  rotate_left
  ·simp only [Act.put, List.setIfInBounds_toArray, List.set_cons_zero, List.set_cons_succ, i64_w, i32_w]
   rfl
  refine take_ (i := 7) (N := some 22) (v := .agg #[.slice as9_0 t5.now.length ds9_0, .slice as9_1 t5.sure.length ds9_1, .slice as9_2 t5.last.length ds9_2, .slice as9_3 t5.slast.length ds9_3, .slice as9_4 t5.floors.length ds9_4]) (a' := ?_) #[true, true, true, true, true, true, true, true, false, false, false, false] rfl rfl (by kernel_rfl) (fun _ _ _ h => h) (Or.inl ⟨by rfl, ?_⟩) ⟨(Bk.below F60.out (below_step HB69.out HB72.out)), (Bk.below F58.out (below_step HB69.out HB72.out)), (Bk.below F62.out (below_step HB69.out HB72.out))⟩ ?_ ?_
  ·rintro w' ⟨s0_, s1_, s2_⟩
   exact run_load_ev rfl rfl s1_ hu26 rfl (by kernel_rfl)
  rotate_left
  ·simp only [Act.put, List.setIfInBounds_toArray, List.set_cons_zero, List.set_cons_succ, i64_w, i32_w]
   rfl
  refine one_ (i := 8) (N := some 23) #[true, true, true, true, true, true, true, true, true, false, false, false] rfl rfl (by kernel_rfl) (by decide) (fun K hK => ?_)
  refine goes_ Try.func36 (by kernel_rfl) rfl #[.agg #[.slice as9_0 t5.now.length ds9_0, .slice as9_1 t5.sure.length ds9_1, .slice as9_2 t5.last.length ds9_2, .slice as9_3 t5.slast.length ds9_3, .slice as9_4 t5.floors.length ds9_4]] (by rfl) rfl rfl (by (try simp only [List.map_toArray, List.map_cons, List.map_nil]); first | done | rfl) ?_
  refine (spec_StoreSync_c (StI.toC (StI.below F59.out (below_step HB69.out HB72.out))) HZ11.out HS10.out HT42.out).mono ?_
  rintro e W76 ⟨u73, rfl, hr74, hb77⟩
  have HB78 := Ak hb77
  clear hb77
  have HRs75 := Ak hr74
  obtain ⟨as75_0, ds75_0, as75_1, ds75_1, as75_2, ds75_2, as75_3, ds75_3, as75_4, ds75_4, rfl, _⟩ := hr74.toC
  clear hr74
  refine ⟨_, rfl, ?_⟩
  refine hK.out _ _ ⟨(Bk.below F60.out (below_step (below_step HB69.out HB72.out) HB78.out)), (Bk.below F58.out (below_step (below_step HB69.out HB72.out) HB78.out)), (Bk.below F62.out (below_step (below_step HB69.out HB72.out) HB78.out))⟩ (fun hHeld => ?_)
  clear hHeld hK K
  refine norm_ (a' := ?_) ?_ ?_
  rotate_left
  ·show Act.put _ (some 23) _ = _
   simp only [Act.put, List.setIfInBounds_toArray, List.set_cons_zero, List.set_cons_succ, i64_w, i32_w]
   rfl
  refine one_ (i := 9) (N := some 24) #[true, true, true, true, true, true, true, true, true, true, false, false] rfl rfl (by kernel_rfl) (by decide) (fun K hK => ?_)
  refine goes_ Try.func22 (by kernel_rfl) rfl #[.agg #[.slice as43_0 t41.now.length ds43_0, .slice as43_1 t41.sure.length ds43_1, .slice as43_2 t41.last.length ds43_2, .slice as43_3 t41.slast.length ds43_3, .slice as43_4 t41.floors.length ds43_4], .agg #[.slice as75_0 t41.now.length ds75_0, .slice as75_1 t41.sure.length ds75_1, .slice as75_2 t41.last.length ds75_2, .slice as75_3 t41.slast.length ds75_3, .slice as75_4 t41.floors.length ds75_4]] (by rfl) rfl rfl (by (try simp only [List.map_toArray, List.map_cons, List.map_nil]); first | done | rfl) ?_
  refine (impl_StoreSame_c (StR.toC (StR.below F63.out (below_step (below_step HB69.out HB72.out) HB78.out))) (StR.toC HRs75.out) (stEq_self _)).mono ?_
  rintro e W79 ⟨rfl, hb80⟩
  have HB81 := Ak hb80
  clear hb80
  refine ⟨_, rfl, ?_⟩
  refine hK.out _ _ ⟨(Bk.below F60.out (below_step (below_step (below_step HB69.out HB72.out) HB78.out) HB81.out)), (Bk.below F58.out (below_step (below_step (below_step HB69.out HB72.out) HB78.out) HB81.out)), (Bk.below F62.out (below_step (below_step (below_step HB69.out HB72.out) HB78.out) HB81.out))⟩ (fun hHeld => ?_)
  clear hHeld hK K
  refine norm_ (a' := ?_) ?_ ?_
  rotate_left
  ·show Act.put _ (some 24) _ = _
   simp only [Act.put, List.setIfInBounds_toArray, List.set_cons_zero, List.set_cons_succ, i64_w, i32_w]
   rfl
  refine pure_ (i := 10) (N := some 25) (v := ?_) (a' := ?_) #[true, true, true, true, true, true, true, true, true, true, true, false] rfl rfl (by kernel_rfl) (fun _ _ _ h => h) (Or.inl ⟨by rfl, ?_⟩) ?_ ?_
  rotate_left
  ·intro w'
   go_simp
   with_reducible rfl
  rotate_left
  ·simp only [Act.put, List.setIfInBounds_toArray, List.set_cons_zero, List.set_cons_succ, i64_w, i32_w]
   rfl
  refine pure_ (i := 11) (N := some 26) (v := ?_) (a' := ?_) #[true, true, true, true, true, true, true, true, true, true, true, true] rfl rfl (by kernel_rfl) (fun _ _ _ h => h) (Or.inl ⟨by rfl, ?_⟩) ?_ ?_
  rotate_left
  ·intro w'
   go_simp
   with_reducible rfl
  rotate_left
  ·simp only [Act.put, List.setIfInBounds_toArray, List.set_cons_zero, List.set_cons_succ, i64_w, i32_w]
   rfl
  refine done_ (by kernel_rfl) ?_
  go_upto_region 8 with (fail)
  by_cases c82 : stOk t5 = true
  ·have K83 := Ak c82
   clear c82
   go_wp2_with (first | ((with_reducible refine gate_dst (N := 27) rfl ?_); refine ev_load rfl (N := 27) rfl rfl (g := g3) rfl (cs := #[.slice as9_0 t5.now.length ds9_0, .slice as9_1 t5.sure.length ds9_1, .slice as9_2 t5.last.length ds9_2, .slice as9_3 t5.slast.length ds9_3, .slice as9_4 t5.floors.length ds9_4]) (Bk.below F58.out (below_step (below_step (below_step HB69.out HB72.out) HB78.out) HB81.out)) hu26 rfl (by kernel_rfl) ?_))
   refine (spec_StoreOk_q (StI.toC (StI.below F59.out (below_step (below_step (below_step HB69.out HB72.out) HB78.out) HB81.out))) HZ11.out K83.out).mono ?_
   rintro e W84 ⟨rfl, hb85⟩
   have HB86 := Ak hb85
   clear hb85
   go_wp2_with (fail)
   refine start_ (n := 32) (S := fun w' => Bk w' g4 #[.slice as27_0 t25.now.length ds27_0, .slice as27_1 t25.sure.length ds27_1, .slice as27_2 t25.last.length ds27_2, .slice as27_3 t25.slast.length ds27_3, .slice as27_4 t25.floors.length ds27_4] 26 ∧ Bk w' g5 #[.slice as43_0 t41.now.length ds43_0, .slice as43_1 t41.sure.length ds43_1, .slice as43_2 t41.last.length ds43_2, .slice as43_3 t41.slast.length ds43_3, .slice as43_4 t41.floors.length ds43_4] 26 ∧ Bk w' g3 #[.slice as9_0 t5.now.length ds9_0, .slice as9_1 t5.sure.length ds9_1, .slice as9_2 t5.last.length ds9_2, .slice as9_3 t5.slast.length ds9_3, .slice as9_4 t5.floors.length ds9_4] 26) (ds := []) #[false, false, false, false, false, false, false, false, false, false, false, false, false, false, false, false, false, false, false, false, false, false, false, false, false, false, false, false, false, false, false, false] (by kernel_rfl) rfl rfl ⟨(show Bk W84 g4 #[.slice as27_0 t25.now.length ds27_0, .slice as27_1 t25.sure.length ds27_1, .slice as27_2 t25.last.length ds27_2, .slice as27_3 t25.slast.length ds27_3, .slice as27_4 t25.floors.length ds27_4] 26 from (Bk.below F60.out (below_step (below_step (below_step (below_step HB69.out HB72.out) HB78.out) HB81.out) HB86.out))), (show Bk W84 g5 #[.slice as43_0 t41.now.length ds43_0, .slice as43_1 t41.sure.length ds43_1, .slice as43_2 t41.last.length ds43_2, .slice as43_3 t41.slast.length ds43_3, .slice as43_4 t41.floors.length ds43_4] 26 from (Bk.below F62.out (below_step (below_step (below_step (below_step HB69.out HB72.out) HB78.out) HB81.out) HB86.out))), (show Bk W84 g3 #[.slice as9_0 t5.now.length ds9_0, .slice as9_1 t5.sure.length ds9_1, .slice as9_2 t5.last.length ds9_2, .slice as9_3 t5.slast.length ds9_3, .slice as9_4 t5.floors.length ds9_4] 26 from (Bk.below F58.out (below_step (below_step (below_step (below_step HB69.out HB72.out) HB78.out) HB81.out) HB86.out)))⟩ (fun hHeld => ?_)
   clear hHeld
   refine world_at (w := W84) (below_drew0 _) (fun W87 HB88 => ?_)
   refine take_ (i := 0) (N := some 38) (v := .agg #[.slice as27_0 t25.now.length ds27_0, .slice as27_1 t25.sure.length ds27_1, .slice as27_2 t25.last.length ds27_2, .slice as27_3 t25.slast.length ds27_3, .slice as27_4 t25.floors.length ds27_4]) (a' := ?_) #[true, false, false, false, false, false, false, false, false, false, false, false, false, false, false, false, false, false, false, false, false, false, false, false, false, false, false, false, false, false, false, false] rfl rfl (by kernel_rfl) (fun _ _ _ h => h) (Or.inl ⟨by rfl, ?_⟩) ⟨(Bk.below F60.out (below_step (below_step (below_step (below_step (below_step HB69.out HB72.out) HB78.out) HB81.out) HB86.out) HB88.out)), (Bk.below F62.out (below_step (below_step (below_step (below_step (below_step HB69.out HB72.out) HB78.out) HB81.out) HB86.out) HB88.out)), (Bk.below F58.out (below_step (below_step (below_step (below_step (below_step HB69.out HB72.out) HB78.out) HB81.out) HB86.out) HB88.out))⟩ ?_ ?_
   ·rintro w' ⟨s0_, s1_, s2_⟩
    exact run_load_ev rfl rfl s0_ hu26 rfl (by kernel_rfl)
   rotate_left
   ·simp only [Act.put, List.setIfInBounds_toArray, List.set_cons_zero, List.set_cons_succ, i64_w, i32_w]
    rfl
   have E89 := Ak ((below_step E57.out (below_step (below_step (below_step (below_step (below_step HB69.out HB72.out) HB78.out) HB81.out) HB86.out) HB88.out)))
   have F90 := Ak ((Bk.below F58.out (below_step (below_step (below_step (below_step (below_step HB69.out HB72.out) HB78.out) HB81.out) HB86.out) HB88.out)))
   have F91 := Ak ((StI.below F59.out (below_step (below_step (below_step (below_step (below_step HB69.out HB72.out) HB78.out) HB81.out) HB86.out) HB88.out)))
   have F92 := Ak ((Bk.below F60.out (below_step (below_step (below_step (below_step (below_step HB69.out HB72.out) HB78.out) HB81.out) HB86.out) HB88.out)))
   have F93 := Ak ((StR.below F61.out (below_step (below_step (below_step (below_step (below_step HB69.out HB72.out) HB78.out) HB81.out) HB86.out) HB88.out)))
   have F94 := Ak ((Bk.below F62.out (below_step (below_step (below_step (below_step (below_step HB69.out HB72.out) HB78.out) HB81.out) HB86.out) HB88.out)))
   have F95 := Ak ((StR.below F63.out (below_step (below_step (below_step (below_step (below_step HB69.out HB72.out) HB78.out) HB81.out) HB86.out) HB88.out)))
   refine one_ (i := 1) (N := some 39) #[true, true, false, false, false, false, false, false, false, false, false, false, false, false, false, false, false, false, false, false, false, false, false, false, false, false, false, false, false, false, false, false] rfl rfl (by kernel_rfl) (by decide) (fun K hK => ?_)
   refine goes_ Try.func23 (by kernel_rfl) rfl #[.agg #[.slice as27_0 t25.now.length ds27_0, .slice as27_1 t25.sure.length ds27_1, .slice as27_2 t25.last.length ds27_2, .slice as27_3 t25.slast.length ds27_3, .slice as27_4 t25.floors.length ds27_4]] (by rfl) rfl rfl (by (try simp only [List.map_toArray, List.map_cons, List.map_nil]); first | done | rfl) ?_
   refine (impl_StoreOk_q (StR.toC F93.out) (sized_fall_e HT26.out HZ11.out) (ok_fall HT26.out K83.out)).mono ?_
   rintro e W96 ⟨rfl, hb97⟩
   have HB98 := Ak hb97
   clear hb97
   refine ⟨_, rfl, ?_⟩
   refine hK.out _ _ ⟨(Bk.below F92.out HB98.out), (Bk.below F94.out HB98.out), (Bk.below F90.out HB98.out)⟩ (fun hHeld => ?_)
   clear hHeld hK K
   refine norm_ (a' := ?_) ?_ ?_
   rotate_left
   ·show Act.put _ (some 39) _ = _
    simp only [Act.put, List.setIfInBounds_toArray, List.set_cons_zero, List.set_cons_succ, i64_w, i32_w]
    rfl
   refine pure_ (i := 2) (N := some 40) (v := ?_) (a' := ?_) #[true, true, true, false, false, false, false, false, false, false, false, false, false, false, false, false, false, false, false, false, false, false, false, false, false, false, false, false, false, false, false, false] rfl rfl (by kernel_rfl) (fun _ _ _ h => h) (Or.inl ⟨by rfl, ?_⟩) ?_ ?_
   rotate_left
   ·intro w'
    go_simp
    with_reducible rfl
   rotate_left
   ·simp only [Act.put, List.setIfInBounds_toArray, List.set_cons_zero, List.set_cons_succ, i64_w, i32_w]
    rfl
   refine take_ (i := 3) (N := some 41) (v := .agg #[.slice as43_0 t41.now.length ds43_0, .slice as43_1 t41.sure.length ds43_1, .slice as43_2 t41.last.length ds43_2, .slice as43_3 t41.slast.length ds43_3, .slice as43_4 t41.floors.length ds43_4]) (a' := ?_) #[true, true, true, true, false, false, false, false, false, false, false, false, false, false, false, false, false, false, false, false, false, false, false, false, false, false, false, false, false, false, false, false] rfl rfl (by kernel_rfl) (fun _ _ _ h => h) (Or.inl ⟨by rfl, ?_⟩) ⟨(Bk.below F92.out HB98.out), (Bk.below F94.out HB98.out), (Bk.below F90.out HB98.out)⟩ ?_ ?_
   ·rintro w' ⟨s0_, s1_, s2_⟩
    exact run_load_ev rfl rfl s1_ hu26 rfl (by kernel_rfl)
   rotate_left
   ·simp only [Act.put, List.setIfInBounds_toArray, List.set_cons_zero, List.set_cons_succ, i64_w, i32_w]
    rfl
   refine one_ (i := 4) (N := some 42) #[true, true, true, true, true, false, false, false, false, false, false, false, false, false, false, false, false, false, false, false, false, false, false, false, false, false, false, false, false, false, false, false] rfl rfl (by kernel_rfl) (by decide) (fun K hK => ?_)
   refine goes_ Try.func23 (by kernel_rfl) rfl #[.agg #[.slice as43_0 t41.now.length ds43_0, .slice as43_1 t41.sure.length ds43_1, .slice as43_2 t41.last.length ds43_2, .slice as43_3 t41.slast.length ds43_3, .slice as43_4 t41.floors.length ds43_4]] (by rfl) rfl rfl (by (try simp only [List.map_toArray, List.map_cons, List.map_nil]); first | done | rfl) ?_
   refine (impl_StoreOk_q (StR.toC (StR.below F95.out HB98.out)) (sized_sync_e HT42.out HZ11.out) (ok_sync HT42.out K83.out)).mono ?_
   rintro e W99 ⟨rfl, hb100⟩
   have HB101 := Ak hb100
   clear hb100
   refine ⟨_, rfl, ?_⟩
   refine hK.out _ _ ⟨(Bk.below F92.out (below_step HB98.out HB101.out)), (Bk.below F94.out (below_step HB98.out HB101.out)), (Bk.below F90.out (below_step HB98.out HB101.out))⟩ (fun hHeld => ?_)
   clear hHeld hK K
   refine norm_ (a' := ?_) ?_ ?_
   rotate_left
   ·show Act.put _ (some 42) _ = _
    simp only [Act.put, List.setIfInBounds_toArray, List.set_cons_zero, List.set_cons_succ, i64_w, i32_w]
    rfl
   refine pure_ (i := 5) (N := some 43) (v := ?_) (a' := ?_) #[true, true, true, true, true, true, false, false, false, false, false, false, false, false, false, false, false, false, false, false, false, false, false, false, false, false, false, false, false, false, false, false] rfl rfl (by kernel_rfl) (fun _ _ _ h => h) (Or.inl ⟨by rfl, ?_⟩) ?_ ?_
   rotate_left
   ·intro w'
    go_simp
    with_reducible rfl
   rotate_left
   ·simp only [Act.put, List.setIfInBounds_toArray, List.set_cons_zero, List.set_cons_succ, i64_w, i32_w]
    rfl
   refine pure_ (i := 6) (N := some 44) (v := ?_) (a' := ?_) #[true, true, true, true, true, true, true, false, false, false, false, false, false, false, false, false, false, false, false, false, false, false, false, false, false, false, false, false, false, false, false, false] rfl rfl (by kernel_rfl) (fun _ _ _ h => h) (Or.inl ⟨by rfl, ?_⟩) ?_ ?_
   rotate_left
   ·intro w'
    go_simp
    with_reducible rfl
   rotate_left
   ·simp only [Act.put, List.setIfInBounds_toArray, List.set_cons_zero, List.set_cons_succ, i64_w, i32_w]
    rfl
   refine take_ (i := 7) (N := some 45) (v := .agg #[.slice as27_0 t25.now.length ds27_0, .slice as27_1 t25.sure.length ds27_1, .slice as27_2 t25.last.length ds27_2, .slice as27_3 t25.slast.length ds27_3, .slice as27_4 t25.floors.length ds27_4]) (a' := ?_) #[true, true, true, true, true, true, true, true, false, false, false, false, false, false, false, false, false, false, false, false, false, false, false, false, false, false, false, false, false, false, false, false] rfl rfl (by kernel_rfl) (fun _ _ _ h => h) (Or.inl ⟨by rfl, ?_⟩) ⟨(Bk.below F92.out (below_step HB98.out HB101.out)), (Bk.below F94.out (below_step HB98.out HB101.out)), (Bk.below F90.out (below_step HB98.out HB101.out))⟩ ?_ ?_
   ·rintro w' ⟨s0_, s1_, s2_⟩
    exact run_load_ev rfl rfl s0_ hu26 rfl (by kernel_rfl)
   rotate_left
   ·simp only [Act.put, List.setIfInBounds_toArray, List.set_cons_zero, List.set_cons_succ, i64_w, i32_w]
    rfl
   refine take_ (i := 9) (N := some 47) (v := .agg #[.slice as27_0 t25.now.length ds27_0, .slice as27_1 t25.sure.length ds27_1, .slice as27_2 t25.last.length ds27_2, .slice as27_3 t25.slast.length ds27_3, .slice as27_4 t25.floors.length ds27_4]) (a' := ?_) #[true, true, true, true, true, true, true, true, false, true, false, false, false, false, false, false, false, false, false, false, false, false, false, false, false, false, false, false, false, false, false, false] rfl rfl (by kernel_rfl) (fun _ _ _ h => h) (Or.inl ⟨by rfl, ?_⟩) ⟨(Bk.below F92.out (below_step HB98.out HB101.out)), (Bk.below F94.out (below_step HB98.out HB101.out)), (Bk.below F90.out (below_step HB98.out HB101.out))⟩ ?_ ?_
   ·rintro w' ⟨s0_, s1_, s2_⟩
    exact run_load_ev rfl rfl s0_ hu26 rfl (by kernel_rfl)
   rotate_left
   ·simp only [Act.put, List.setIfInBounds_toArray, List.set_cons_zero, List.set_cons_succ, i64_w, i32_w]
    rfl
   refine one_ (i := 8) (N := some 46) #[true, true, true, true, true, true, true, true, true, true, false, false, false, false, false, false, false, false, false, false, false, false, false, false, false, false, false, false, false, false, false, false] rfl rfl (by kernel_rfl) (by decide) (fun K hK => ?_)
   refine goes_ Try.func20 (by kernel_rfl) rfl #[.agg #[.slice as27_0 t25.now.length ds27_0, .slice as27_1 t25.sure.length ds27_1, .slice as27_2 t25.last.length ds27_2, .slice as27_3 t25.slast.length ds27_3, .slice as27_4 t25.floors.length ds27_4]] (by rfl) rfl rfl (by (try simp only [List.map_toArray, List.map_cons, List.map_nil]); first | done | rfl) ?_
   refine (impl_StoreFall_c (StR.toC (StR.below F93.out (below_step HB98.out HB101.out))) (sized_fall_e HT26.out HZ11.out) (fallSt_small HT26.out HS10.out) (fall_fall HT26.out K83.out)).mono ?_
   rintro e W105 ⟨u102, rfl, hr103, hb106⟩
   have HB107 := Ak hb106
   clear hb106
   have HRs104 := Ak hr103
   obtain ⟨as104_0, ds104_0, as104_1, ds104_1, as104_2, ds104_2, as104_3, ds104_3, as104_4, ds104_4, rfl, _⟩ := hr103.toC
   clear hr103
   refine ⟨_, rfl, ?_⟩
   refine hK.out _ _ ⟨(Bk.below F92.out (below_step (below_step HB98.out HB101.out) HB107.out)), (Bk.below F94.out (below_step (below_step HB98.out HB101.out) HB107.out)), (Bk.below F90.out (below_step (below_step HB98.out HB101.out) HB107.out))⟩ (fun hHeld => ?_)
   clear hHeld hK K
   refine norm_ (a' := ?_) ?_ ?_
   rotate_left
   ·show Act.put _ (some 46) _ = _
    simp only [Act.put, List.setIfInBounds_toArray, List.set_cons_zero, List.set_cons_succ, i64_w, i32_w]
    rfl
   refine one_ (i := 10) (N := some 48) #[true, true, true, true, true, true, true, true, true, true, true, false, false, false, false, false, false, false, false, false, false, false, false, false, false, false, false, false, false, false, false, false] rfl rfl (by kernel_rfl) (by decide) (fun K hK => ?_)
   refine goes_ Try.func22 (by kernel_rfl) rfl #[.agg #[.slice as104_0 t25.now.length ds104_0, .slice as104_1 t25.sure.length ds104_1, .slice as104_2 t25.last.length ds104_2, .slice as104_3 t25.slast.length ds104_3, .slice as104_4 t25.floors.length ds104_4], .agg #[.slice as27_0 t25.now.length ds27_0, .slice as27_1 t25.sure.length ds27_1, .slice as27_2 t25.last.length ds27_2, .slice as27_3 t25.slast.length ds27_3, .slice as27_4 t25.floors.length ds27_4]] (by rfl) rfl rfl (by (try simp only [List.map_toArray, List.map_cons, List.map_nil]); first | done | rfl) ?_
   refine (impl_StoreSame_c (StR.toC HRs104.out) (StR.toC (StR.below F93.out (below_step (below_step HB98.out HB101.out) HB107.out))) (stEq_self _)).mono ?_
   rintro e W108 ⟨rfl, hb109⟩
   have HB110 := Ak hb109
   clear hb109
   refine ⟨_, rfl, ?_⟩
   refine hK.out _ _ ⟨(Bk.below F92.out (below_step (below_step (below_step HB98.out HB101.out) HB107.out) HB110.out)), (Bk.below F94.out (below_step (below_step (below_step HB98.out HB101.out) HB107.out) HB110.out)), (Bk.below F90.out (below_step (below_step (below_step HB98.out HB101.out) HB107.out) HB110.out))⟩ (fun hHeld => ?_)
   clear hHeld hK K
   refine norm_ (a' := ?_) ?_ ?_
   rotate_left
   ·show Act.put _ (some 48) _ = _
    simp only [Act.put, List.setIfInBounds_toArray, List.set_cons_zero, List.set_cons_succ, i64_w, i32_w]
    rfl
   refine pure_ (i := 11) (N := some 49) (v := ?_) (a' := ?_) #[true, true, true, true, true, true, true, true, true, true, true, true, false, false, false, false, false, false, false, false, false, false, false, false, false, false, false, false, false, false, false, false] rfl rfl (by kernel_rfl) (fun _ _ _ h => h) (Or.inl ⟨by rfl, ?_⟩) ?_ ?_
   rotate_left
   ·intro w'
    go_simp
    with_reducible rfl
   rotate_left
   ·simp only [Act.put, List.setIfInBounds_toArray, List.set_cons_zero, List.set_cons_succ, i64_w, i32_w]
    rfl
   refine pure_ (i := 12) (N := some 50) (v := ?_) (a' := ?_) #[true, true, true, true, true, true, true, true, true, true, true, true, true, false, false, false, false, false, false, false, false, false, false, false, false, false, false, false, false, false, false, false] rfl rfl (by kernel_rfl) (fun _ _ _ h => h) (Or.inl ⟨by rfl, ?_⟩) ?_ ?_
   rotate_left
   ·intro w'
    go_simp
    with_reducible rfl
   rotate_left
   ·simp only [Act.put, List.setIfInBounds_toArray, List.set_cons_zero, List.set_cons_succ, i64_w, i32_w]
    rfl
   refine take_ (i := 13) (N := some 51) (v := .agg #[.slice as43_0 t41.now.length ds43_0, .slice as43_1 t41.sure.length ds43_1, .slice as43_2 t41.last.length ds43_2, .slice as43_3 t41.slast.length ds43_3, .slice as43_4 t41.floors.length ds43_4]) (a' := ?_) #[true, true, true, true, true, true, true, true, true, true, true, true, true, true, false, false, false, false, false, false, false, false, false, false, false, false, false, false, false, false, false, false] rfl rfl (by kernel_rfl) (fun _ _ _ h => h) (Or.inl ⟨by rfl, ?_⟩) ⟨(Bk.below F92.out (below_step (below_step (below_step HB98.out HB101.out) HB107.out) HB110.out)), (Bk.below F94.out (below_step (below_step (below_step HB98.out HB101.out) HB107.out) HB110.out)), (Bk.below F90.out (below_step (below_step (below_step HB98.out HB101.out) HB107.out) HB110.out))⟩ ?_ ?_
   ·rintro w' ⟨s0_, s1_, s2_⟩
    exact run_load_ev rfl rfl s1_ hu26 rfl (by kernel_rfl)
   rotate_left
   ·simp only [Act.put, List.setIfInBounds_toArray, List.set_cons_zero, List.set_cons_succ, i64_w, i32_w]
    rfl
   refine take_ (i := 15) (N := some 53) (v := .agg #[.slice as43_0 t41.now.length ds43_0, .slice as43_1 t41.sure.length ds43_1, .slice as43_2 t41.last.length ds43_2, .slice as43_3 t41.slast.length ds43_3, .slice as43_4 t41.floors.length ds43_4]) (a' := ?_) #[true, true, true, true, true, true, true, true, true, true, true, true, true, true, false, true, false, false, false, false, false, false, false, false, false, false, false, false, false, false, false, false] rfl rfl (by kernel_rfl) (fun _ _ _ h => h) (Or.inl ⟨by rfl, ?_⟩) ⟨(Bk.below F92.out (below_step (below_step (below_step HB98.out HB101.out) HB107.out) HB110.out)), (Bk.below F94.out (below_step (below_step (below_step HB98.out HB101.out) HB107.out) HB110.out)), (Bk.below F90.out (below_step (below_step (below_step HB98.out HB101.out) HB107.out) HB110.out))⟩ ?_ ?_
   ·rintro w' ⟨s0_, s1_, s2_⟩
    exact run_load_ev rfl rfl s1_ hu26 rfl (by kernel_rfl)
   rotate_left
   ·simp only [Act.put, List.setIfInBounds_toArray, List.set_cons_zero, List.set_cons_succ, i64_w, i32_w]
    rfl
   refine one_ (i := 14) (N := some 52) #[true, true, true, true, true, true, true, true, true, true, true, true, true, true, true, true, false, false, false, false, false, false, false, false, false, false, false, false, false, false, false, false] rfl rfl (by kernel_rfl) (by decide) (fun K hK => ?_)
   refine goes_ Try.func20 (by kernel_rfl) rfl #[.agg #[.slice as43_0 t41.now.length ds43_0, .slice as43_1 t41.sure.length ds43_1, .slice as43_2 t41.last.length ds43_2, .slice as43_3 t41.slast.length ds43_3, .slice as43_4 t41.floors.length ds43_4]] (by rfl) rfl rfl (by (try simp only [List.map_toArray, List.map_cons, List.map_nil]); first | done | rfl) ?_
   refine (impl_StoreFall_c (StR.toC (StR.below F95.out (below_step (below_step (below_step HB98.out HB101.out) HB107.out) HB110.out))) (sized_sync_e HT42.out HZ11.out) (syncSt_small HT42.out HS10.out) (fall_sync HT42.out K83.out)).mono ?_
   rintro e W114 ⟨u111, rfl, hr112, hb115⟩
   have HB116 := Ak hb115
   clear hb115
   have HRs113 := Ak hr112
   obtain ⟨as113_0, ds113_0, as113_1, ds113_1, as113_2, ds113_2, as113_3, ds113_3, as113_4, ds113_4, rfl, _⟩ := hr112.toC
   clear hr112
   refine ⟨_, rfl, ?_⟩
   refine hK.out _ _ ⟨(Bk.below F92.out (below_step (below_step (below_step (below_step HB98.out HB101.out) HB107.out) HB110.out) HB116.out)), (Bk.below F94.out (below_step (below_step (below_step (below_step HB98.out HB101.out) HB107.out) HB110.out) HB116.out)), (Bk.below F90.out (below_step (below_step (below_step (below_step HB98.out HB101.out) HB107.out) HB110.out) HB116.out))⟩ (fun hHeld => ?_)
   clear hHeld hK K
   refine norm_ (a' := ?_) ?_ ?_
   rotate_left
   ·show Act.put _ (some 52) _ = _
    simp only [Act.put, List.setIfInBounds_toArray, List.set_cons_zero, List.set_cons_succ, i64_w, i32_w]
    rfl
   have E117 := Ak ((below_step E89.out (below_step (below_step (below_step (below_step HB98.out HB101.out) HB107.out) HB110.out) HB116.out)))
   have F118 := Ak ((Bk.below F90.out (below_step (below_step (below_step (below_step HB98.out HB101.out) HB107.out) HB110.out) HB116.out)))
   have F119 := Ak ((StI.below F91.out (below_step (below_step (below_step (below_step HB98.out HB101.out) HB107.out) HB110.out) HB116.out)))
   have F120 := Ak ((Bk.below F92.out (below_step (below_step (below_step (below_step HB98.out HB101.out) HB107.out) HB110.out) HB116.out)))
   have F121 := Ak ((StR.below F93.out (below_step (below_step (below_step (below_step HB98.out HB101.out) HB107.out) HB110.out) HB116.out)))
   have F122 := Ak ((Bk.below F94.out (below_step (below_step (below_step (below_step HB98.out HB101.out) HB107.out) HB110.out) HB116.out)))
   have F123 := Ak ((StR.below F95.out (below_step (below_step (below_step (below_step HB98.out HB101.out) HB107.out) HB110.out) HB116.out)))
   have F124 := Ak ((StR.below HRs104.out (below_step HB110.out HB116.out)))
   refine one_ (i := 16) (N := some 54) #[true, true, true, true, true, true, true, true, true, true, true, true, true, true, true, true, true, false, false, false, false, false, false, false, false, false, false, false, false, false, false, false] rfl rfl (by kernel_rfl) (by decide) (fun K hK => ?_)
   refine goes_ Try.func22 (by kernel_rfl) rfl #[.agg #[.slice as113_0 t41.now.length ds113_0, .slice as113_1 t41.sure.length ds113_1, .slice as113_2 t41.last.length ds113_2, .slice as113_3 t41.slast.length ds113_3, .slice as113_4 t41.floors.length ds113_4], .agg #[.slice as43_0 t41.now.length ds43_0, .slice as43_1 t41.sure.length ds43_1, .slice as43_2 t41.last.length ds43_2, .slice as43_3 t41.slast.length ds43_3, .slice as43_4 t41.floors.length ds43_4]] (by rfl) rfl rfl (by (try simp only [List.map_toArray, List.map_cons, List.map_nil]); first | done | rfl) ?_
   refine (impl_StoreSame_c (StR.toC HRs113.out) (StR.toC F123.out) (stEq_self _)).mono ?_
   rintro e W125 ⟨rfl, hb126⟩
   have HB127 := Ak hb126
   clear hb126
   refine ⟨_, rfl, ?_⟩
   refine hK.out _ _ ⟨(Bk.below F120.out HB127.out), (Bk.below F122.out HB127.out), (Bk.below F118.out HB127.out)⟩ (fun hHeld => ?_)
   clear hHeld hK K
   refine norm_ (a' := ?_) ?_ ?_
   rotate_left
   ·show Act.put _ (some 54) _ = _
    simp only [Act.put, List.setIfInBounds_toArray, List.set_cons_zero, List.set_cons_succ, i64_w, i32_w]
    rfl
   refine pure_ (i := 17) (N := some 55) (v := ?_) (a' := ?_) #[true, true, true, true, true, true, true, true, true, true, true, true, true, true, true, true, true, true, false, false, false, false, false, false, false, false, false, false, false, false, false, false] rfl rfl (by kernel_rfl) (fun _ _ _ h => h) (Or.inl ⟨by rfl, ?_⟩) ?_ ?_
   rotate_left
   ·intro w'
    go_simp
    with_reducible rfl
   rotate_left
   ·simp only [Act.put, List.setIfInBounds_toArray, List.set_cons_zero, List.set_cons_succ, i64_w, i32_w]
    rfl
   refine pure_ (i := 18) (N := some 56) (v := ?_) (a' := ?_) #[true, true, true, true, true, true, true, true, true, true, true, true, true, true, true, true, true, true, true, false, false, false, false, false, false, false, false, false, false, false, false, false] rfl rfl (by kernel_rfl) (fun _ _ _ h => h) (Or.inl ⟨by rfl, ?_⟩) ?_ ?_
   rotate_left
   ·intro w'
    go_simp
    with_reducible rfl
   rotate_left
   ·simp only [Act.put, List.setIfInBounds_toArray, List.set_cons_zero, List.set_cons_succ, i64_w, i32_w]
    rfl
   refine take_ (i := 19) (N := some 57) (v := .agg #[.slice as27_0 t25.now.length ds27_0, .slice as27_1 t25.sure.length ds27_1, .slice as27_2 t25.last.length ds27_2, .slice as27_3 t25.slast.length ds27_3, .slice as27_4 t25.floors.length ds27_4]) (a' := ?_) #[true, true, true, true, true, true, true, true, true, true, true, true, true, true, true, true, true, true, true, true, false, false, false, false, false, false, false, false, false, false, false, false] rfl rfl (by kernel_rfl) (fun _ _ _ h => h) (Or.inl ⟨by rfl, ?_⟩) ⟨(Bk.below F120.out HB127.out), (Bk.below F122.out HB127.out), (Bk.below F118.out HB127.out)⟩ ?_ ?_
   ·rintro w' ⟨s0_, s1_, s2_⟩
    exact run_load_ev rfl rfl s0_ hu26 rfl (by kernel_rfl)
   rotate_left
   ·simp only [Act.put, List.setIfInBounds_toArray, List.set_cons_zero, List.set_cons_succ, i64_w, i32_w]
    rfl
   refine take_ (i := 21) (N := some 59) (v := .agg #[.slice as27_0 t25.now.length ds27_0, .slice as27_1 t25.sure.length ds27_1, .slice as27_2 t25.last.length ds27_2, .slice as27_3 t25.slast.length ds27_3, .slice as27_4 t25.floors.length ds27_4]) (a' := ?_) #[true, true, true, true, true, true, true, true, true, true, true, true, true, true, true, true, true, true, true, true, false, true, false, false, false, false, false, false, false, false, false, false] rfl rfl (by kernel_rfl) (fun _ _ _ h => h) (Or.inl ⟨by rfl, ?_⟩) ⟨(Bk.below F120.out HB127.out), (Bk.below F122.out HB127.out), (Bk.below F118.out HB127.out)⟩ ?_ ?_
   ·rintro w' ⟨s0_, s1_, s2_⟩
    exact run_load_ev rfl rfl s0_ hu26 rfl (by kernel_rfl)
   rotate_left
   ·simp only [Act.put, List.setIfInBounds_toArray, List.set_cons_zero, List.set_cons_succ, i64_w, i32_w]
    rfl
   refine one_ (i := 20) (N := some 58) #[true, true, true, true, true, true, true, true, true, true, true, true, true, true, true, true, true, true, true, true, true, true, false, false, false, false, false, false, false, false, false, false] rfl rfl (by kernel_rfl) (by decide) (fun K hK => ?_)
   refine goes_ Try.func21 (by kernel_rfl) rfl #[.agg #[.slice as27_0 t25.now.length ds27_0, .slice as27_1 t25.sure.length ds27_1, .slice as27_2 t25.last.length ds27_2, .slice as27_3 t25.slast.length ds27_3, .slice as27_4 t25.floors.length ds27_4]] (by rfl) rfl rfl (by (try simp only [List.map_toArray, List.map_cons, List.map_nil]); first | done | rfl) ?_
   refine (impl_StoreSync_c (StR.toC (StR.below F121.out HB127.out)) (sized_fall_e HT26.out HZ11.out) (fallSt_small HT26.out HS10.out) (sync_fall HT26.out K83.out)).mono ?_
   rintro e W131 ⟨u128, rfl, hr129, hb132⟩
   have HB133 := Ak hb132
   clear hb132
   have HRs130 := Ak hr129
   obtain ⟨as130_0, ds130_0, as130_1, ds130_1, as130_2, ds130_2, as130_3, ds130_3, as130_4, ds130_4, rfl, _⟩ := hr129.toC
   clear hr129
   refine ⟨_, rfl, ?_⟩
   refine hK.out _ _ ⟨(Bk.below F120.out (below_step HB127.out HB133.out)), (Bk.below F122.out (below_step HB127.out HB133.out)), (Bk.below F118.out (below_step HB127.out HB133.out))⟩ (fun hHeld => ?_)
   clear hHeld hK K
   refine norm_ (a' := ?_) ?_ ?_
   rotate_left
   ·show Act.put _ (some 58) _ = _
    simp only [Act.put, List.setIfInBounds_toArray, List.set_cons_zero, List.set_cons_succ, i64_w, i32_w]
    rfl
   refine one_ (i := 22) (N := some 60) #[true, true, true, true, true, true, true, true, true, true, true, true, true, true, true, true, true, true, true, true, true, true, true, false, false, false, false, false, false, false, false, false] rfl rfl (by kernel_rfl) (by decide) (fun K hK => ?_)
   refine goes_ Try.func22 (by kernel_rfl) rfl #[.agg #[.slice as130_0 t25.now.length ds130_0, .slice as130_1 t25.sure.length ds130_1, .slice as130_2 t25.last.length ds130_2, .slice as130_3 t25.slast.length ds130_3, .slice as130_4 t25.floors.length ds130_4], .agg #[.slice as27_0 t25.now.length ds27_0, .slice as27_1 t25.sure.length ds27_1, .slice as27_2 t25.last.length ds27_2, .slice as27_3 t25.slast.length ds27_3, .slice as27_4 t25.floors.length ds27_4]] (by rfl) rfl rfl (by (try simp only [List.map_toArray, List.map_cons, List.map_nil]); first | done | rfl) ?_
   refine (impl_StoreSame_c (StR.toC HRs130.out) (StR.toC (StR.below F121.out (below_step HB127.out HB133.out))) (stEq_self _)).mono ?_
   rintro e W134 ⟨rfl, hb135⟩
   have HB136 := Ak hb135
   clear hb135
   refine ⟨_, rfl, ?_⟩
   refine hK.out _ _ ⟨(Bk.below F120.out (below_step (below_step HB127.out HB133.out) HB136.out)), (Bk.below F122.out (below_step (below_step HB127.out HB133.out) HB136.out)), (Bk.below F118.out (below_step (below_step HB127.out HB133.out) HB136.out))⟩ (fun hHeld => ?_)
   clear hHeld hK K
   refine norm_ (a' := ?_) ?_ ?_
   rotate_left
   ·show Act.put _ (some 60) _ = _
    simp only [Act.put, List.setIfInBounds_toArray, List.set_cons_zero, List.set_cons_succ, i64_w, i32_w]
    rfl
   refine pure_ (i := 23) (N := some 61) (v := ?_) (a' := ?_) #[true, true, true, true, true, true, true, true, true, true, true, true, true, true, true, true, true, true, true, true, true, true, true, true, false, false, false, false, false, false, false, false] rfl rfl (by kernel_rfl) (fun _ _ _ h => h) (Or.inl ⟨by rfl, ?_⟩) ?_ ?_
   rotate_left
   ·intro w'
    go_simp
    with_reducible rfl
   rotate_left
   ·simp only [Act.put, List.setIfInBounds_toArray, List.set_cons_zero, List.set_cons_succ, i64_w, i32_w]
    rfl
   refine pure_ (i := 24) (N := some 62) (v := ?_) (a' := ?_) #[true, true, true, true, true, true, true, true, true, true, true, true, true, true, true, true, true, true, true, true, true, true, true, true, true, false, false, false, false, false, false, false] rfl rfl (by kernel_rfl) (fun _ _ _ h => h) (Or.inl ⟨by rfl, ?_⟩) ?_ ?_
   rotate_left
   ·intro w'
    go_simp
    with_reducible rfl
   rotate_left
   ·simp only [Act.put, List.setIfInBounds_toArray, List.set_cons_zero, List.set_cons_succ, i64_w, i32_w]
    rfl
   refine pure_ (i := 25) (N := some 63) (v := ?_) (a' := ?_) #[true, true, true, true, true, true, true, true, true, true, true, true, true, true, true, true, true, true, true, true, true, true, true, true, true, true, false, false, false, false, false, false] rfl rfl (by kernel_rfl) (fun _ _ _ h => h) (Or.inl ⟨by rfl, ?_⟩) ?_ ?_
   rotate_left
   ·intro w'
    go_simp
    with_reducible rfl
   rotate_left
   ·simp only [Act.put, List.setIfInBounds_toArray, List.set_cons_zero, List.set_cons_succ, i64_w, i32_w]
    rfl
   refine take_ (i := 26) (N := some 64) (v := .slice as27_4 t25.floors.length ds27_4) (a' := ?_) #[true, true, true, true, true, true, true, true, true, true, true, true, true, true, true, true, true, true, true, true, true, true, true, true, true, true, true, false, false, false, false, false] rfl rfl (by kernel_rfl) (fun _ _ _ h => h) (Or.inl ⟨by rfl, ?_⟩) ⟨(Bk.below F120.out (below_step (below_step HB127.out HB133.out) HB136.out)), (Bk.below F122.out (below_step (below_step HB127.out HB133.out) HB136.out)), (Bk.below F118.out (below_step (below_step HB127.out HB133.out) HB136.out))⟩ ?_ ?_
   ·rintro w' ⟨s0_, s1_, s2_⟩
    have hc_ : w'.cell? ⟨g4, 4, none⟩ = some (.slice as27_4 t25.floors.length ds27_4) := (Bk.cell s0_ 4).trans rfl
    first | (go_simp; done) | (go_simp; with_reducible rfl) | (go_simp; rfl)
   rotate_left
   ·simp only [Act.put, List.setIfInBounds_toArray, List.set_cons_zero, List.set_cons_succ, i64_w, i32_w]
    rfl
   refine pure_ (i := 27) (N := some 65) (v := ?_) (a' := ?_) #[true, true, true, true, true, true, true, true, true, true, true, true, true, true, true, true, true, true, true, true, true, true, true, true, true, true, true, true, false, false, false, false] rfl rfl (by kernel_rfl) (fun _ _ _ h => h) (Or.inl ⟨by rfl, ?_⟩) ?_ ?_
   rotate_left
   ·intro w'
    go_simp
    with_reducible rfl
   rotate_left
   ·simp only [Act.put, List.setIfInBounds_toArray, List.set_cons_zero, List.set_cons_succ, i64_w, i32_w]
    rfl
   refine take_ (i := 28) (N := some 66) (v := .slice as9_4 t5.floors.length ds9_4) (a' := ?_) #[true, true, true, true, true, true, true, true, true, true, true, true, true, true, true, true, true, true, true, true, true, true, true, true, true, true, true, true, true, false, false, false] rfl rfl (by kernel_rfl) (fun _ _ _ h => h) (Or.inl ⟨by rfl, ?_⟩) ⟨(Bk.below F120.out (below_step (below_step HB127.out HB133.out) HB136.out)), (Bk.below F122.out (below_step (below_step HB127.out HB133.out) HB136.out)), (Bk.below F118.out (below_step (below_step HB127.out HB133.out) HB136.out))⟩ ?_ ?_
   ·rintro w' ⟨s0_, s1_, s2_⟩
    have hc_ : w'.cell? ⟨g3, 4, none⟩ = some (.slice as9_4 t5.floors.length ds9_4) := (Bk.cell s2_ 4).trans rfl
    first | (go_simp; done) | (go_simp; with_reducible rfl) | (go_simp; rfl)
   rotate_left
   ·simp only [Act.put, List.setIfInBounds_toArray, List.set_cons_zero, List.set_cons_succ, i64_w, i32_w]
    rfl
   refine one_ (i := 29) (N := some 67) #[true, true, true, true, true, true, true, true, true, true, true, true, true, true, true, true, true, true, true, true, true, true, true, true, true, true, true, true, true, true, false, false] rfl rfl (by kernel_rfl) (by decide) (fun K hK => ?_)
   refine goes_ Try.func18 (by kernel_rfl) rfl #[.slice as27_4 t25.floors.length ds27_4, .slice as9_4 t5.floors.length ds9_4] (by rfl) rfl rfl (by (try simp only [List.map_toArray, List.map_cons, List.map_nil]); first | done | rfl) ?_
   refine (wpNums_c (StC.floors_row (StR.toC (StR.below F121.out (below_step (below_step HB127.out HB133.out) HB136.out)))) (StC.floors_row (StI.toC (StI.below F119.out (below_step (below_step HB127.out HB133.out) HB136.out)))) (decide_eq_true (floors_fall HT26.out K83.out))).mono ?_
   rintro e W137 ⟨rfl, hb138⟩
   have HB139 := Ak hb138
   clear hb138
   refine ⟨_, rfl, ?_⟩
   refine hK.out _ _ ⟨(Bk.below F120.out (below_step (below_step (below_step HB127.out HB133.out) HB136.out) HB139.out)), (Bk.below F122.out (below_step (below_step (below_step HB127.out HB133.out) HB136.out) HB139.out)), (Bk.below F118.out (below_step (below_step (below_step HB127.out HB133.out) HB136.out) HB139.out))⟩ (fun hHeld => ?_)
   clear hHeld hK K
   refine norm_ (a' := ?_) ?_ ?_
   rotate_left
   ·show Act.put _ (some 67) _ = _
    simp only [Act.put, List.setIfInBounds_toArray, List.set_cons_zero, List.set_cons_succ, i64_w, i32_w]
    rfl
   refine pure_ (i := 30) (N := some 68) (v := ?_) (a' := ?_) #[true, true, true, true, true, true, true, true, true, true, true, true, true, true, true, true, true, true, true, true, true, true, true, true, true, true, true, true, true, true, true, false] rfl rfl (by kernel_rfl) (fun _ _ _ h => h) (Or.inl ⟨by rfl, ?_⟩) ?_ ?_
   rotate_left
   ·intro w'
    go_simp
    with_reducible rfl
   rotate_left
   ·simp only [Act.put, List.setIfInBounds_toArray, List.set_cons_zero, List.set_cons_succ, i64_w, i32_w]
    rfl
   refine pure_ (i := 31) (N := some 2) (v := ?_) (a' := ?_) #[true, true, true, true, true, true, true, true, true, true, true, true, true, true, true, true, true, true, true, true, true, true, true, true, true, true, true, true, true, true, true, true] rfl rfl (by kernel_rfl) (fun _ _ _ h => h) (Or.inl ⟨by rfl, ?_⟩) ?_ ?_
   rotate_left
   ·intro w'
    go_simp
    with_reducible rfl
   rotate_left
   ·simp only [Act.put, List.setIfInBounds_toArray, List.set_cons_zero, List.set_cons_succ, i64_w, i32_w]
    rfl
   refine done_ (by kernel_rfl) ?_
   try go_wp2
   go_ret
   exact ⟨rfl, (below_step E117.out (below_step (below_step (below_step HB127.out HB133.out) HB136.out) HB139.out))⟩
  ·have K83 := Ak c82
   clear c82
   go_wp2_with (first | ((with_reducible refine gate_dst (N := 27) rfl ?_); refine ev_load rfl (N := 27) rfl rfl (g := g3) rfl (cs := #[.slice as9_0 t5.now.length ds9_0, .slice as9_1 t5.sure.length ds9_1, .slice as9_2 t5.last.length ds9_2, .slice as9_3 t5.slast.length ds9_3, .slice as9_4 t5.floors.length ds9_4]) (Bk.below F58.out (below_step (below_step (below_step HB69.out HB72.out) HB78.out) HB81.out)) hu26 rfl (by kernel_rfl) ?_))
   refine (spec_StoreOk_q (StI.toC (StI.below F59.out (below_step (below_step (below_step HB69.out HB72.out) HB78.out) HB81.out))) HZ11.out (Bool.eq_false_iff.mpr K83.out)).mono ?_
   rintro e W140 ⟨rfl, hb141⟩
   have HB142 := Ak hb141
   clear hb141
   go_wp2_with (first | ((with_reducible refine gate_dst (N := 30) rfl ?_); refine ev_load rfl (N := 30) rfl rfl (g := g4) rfl (cs := #[.slice as27_0 t25.now.length ds27_0, .slice as27_1 t25.sure.length ds27_1, .slice as27_2 t25.last.length ds27_2, .slice as27_3 t25.slast.length ds27_3, .slice as27_4 t25.floors.length ds27_4]) (Bk.below F60.out (below_step (below_step (below_step (below_step HB69.out HB72.out) HB78.out) HB81.out) HB142.out)) hu26 rfl (by kernel_rfl) ?_))
   have E143 := Ak ((below_step E57.out (below_step (below_step (below_step (below_step HB69.out HB72.out) HB78.out) HB81.out) HB142.out)))
   have F144 := Ak ((Bk.below F58.out (below_step (below_step (below_step (below_step HB69.out HB72.out) HB78.out) HB81.out) HB142.out)))
   have F145 := Ak ((StI.below F59.out (below_step (below_step (below_step (below_step HB69.out HB72.out) HB78.out) HB81.out) HB142.out)))
   have F146 := Ak ((Bk.below F60.out (below_step (below_step (below_step (below_step HB69.out HB72.out) HB78.out) HB81.out) HB142.out)))
   have F147 := Ak ((StR.below F61.out (below_step (below_step (below_step (below_step HB69.out HB72.out) HB78.out) HB81.out) HB142.out)))
   have F148 := Ak ((Bk.below F62.out (below_step (below_step (below_step (below_step HB69.out HB72.out) HB78.out) HB81.out) HB142.out)))
   have F149 := Ak ((StR.below F63.out (below_step (below_step (below_step (below_step HB69.out HB72.out) HB78.out) HB81.out) HB142.out)))
   refine (impl_StoreSame_c (StR.toC F147.out) StC_none (stEq_of (none_fall HT26.out (Bool.eq_false_iff.mpr K83.out)))).mono ?_
   rintro e W150 ⟨rfl, hb151⟩
   have HB152 := Ak hb151
   clear hb151
   go_wp2_with (first | ((with_reducible refine gate_dst (N := 34) rfl ?_); refine ev_load_on (by rfl) (N := 34) rfl rfl (g := g5) rfl (cs := #[.slice as43_0 t41.now.length ds43_0, .slice as43_1 t41.sure.length ds43_1, .slice as43_2 t41.last.length ds43_2, .slice as43_3 t41.slast.length ds43_3, .slice as43_4 t41.floors.length ds43_4]) (Bk.below F148.out HB152.out) hu26 rfl (by kernel_rfl) ?_))
   refine (impl_StoreSame_c (StR.toC (StR.below F149.out HB152.out)) StC_none (stEq_of (none_sync HT42.out (Bool.eq_false_iff.mpr K83.out)))).mono ?_
   rintro e W153 ⟨rfl, hb154⟩
   have HB155 := Ak hb154
   clear hb154
   try go_wp2
   go_ret
   exact ⟨rfl, (below_step E143.out (below_step HB152.out HB155.out))⟩
end Go.Proofs.Ytmekkapacbdbeaa.P

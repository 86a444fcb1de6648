/- Part 6 of the proof of FnExactStoreDo: words, contracts of callees, plain lemmas. -/
import Derived.Test.YtolmblfffnnabaaZStoreDo5
namespace Go.Proofs.Ytolmblfffnnabaa.P
open Go.RowKit Go.Proofs.YtolmblfffnnabaaW.PrintWords Go.Proofs.YtolmblfffnnabaaW.PrintLast Go.Proofs.YtolmblfffnnabaaW.PrintMore
attribute [local go_sem] max2_int min2_int max_two min_two max_three min_three max_four min_four   
set_option linter.unusedVariables false
set_option linter.unusedSimpArgs false
def laws_heldStore.f (k : Nat) (l0_0 : List ByteArray) (l0_1 : List ByteArray) (l0_2 : List Int) (l0_3 : List Int) (l0_4 : List Int) (a1 : Int) : Option (Int) := (laws_heldStringS.f k l0_0 a1).bind fun t165 => (if t165 < 0 then (some (-1)) else ((laws_heldStringS.f k l0_1 t165).bind fun t166 => (if t166 < 0 then (some (-1)) else ((laws_heldIntS.f k l0_2 t166).bind fun t167 => (if t167 < 0 then (some (-1)) else ((laws_heldIntS.f k l0_3 t167).bind fun t168 => (if t168 < 0 then (some (-1)) else ((laws_heldIntS.f k l0_4 t168).bind fun t169 => (if t169 < 0 then (some (-1)) else (some t169))))))))))
set_option maxHeartbeats 8000000 in
set_option maxRecDepth 100000 in
theorem laws_heldStore.calls (k : Nat) (A0_0 : Option Addr) (c0_0 : Nat) (l0_0 : List ByteArray) (A0_1 : Option Addr) (c0_1 : Nat) (l0_1 : List ByteArray) (A0_2 : Option Addr) (c0_2 : Nat) (l0_2 : List Int) (A0_3 : Option Addr) (c0_3 : Nat) (l0_3 : List Int) (A0_4 : Option Addr) (c0_4 : Nat) (l0_4 : List Int) (a1 : Int) (r : Int) (w : World) (hr0_0 : Kd.C Kd.string w A0_0 l0_0.length l0_0) (hc0_0 : l0_0.length ≤ c0_0) (hr0_1 : Kd.C Kd.string w A0_1 l0_1.length l0_1) (hc0_1 : l0_1.length ≤ c0_1) (hr0_2 : Kd.C (Kd.int .i64) w A0_2 l0_2.length l0_2) (hc0_2 : l0_2.length ≤ c0_2) (hr0_3 : Kd.C (Kd.int .i64) w A0_3 l0_3.length l0_3) (hc0_3 : l0_3.length ≤ c0_3) (hr0_4 : Kd.C (Kd.int .i64) w A0_4 l0_4.length l0_4) (hc0_4 : l0_4.length ≤ c0_4) (h : laws_heldStore.f k l0_0 l0_1 l0_2 l0_3 l0_4 a1 = some r) :
    Calls Try.prog 16 #[.agg #[.slice A0_0 l0_0.length c0_0, .slice A0_1 l0_1.length c0_1, .slice A0_2 l0_2.length c0_2, .slice A0_3 l0_3.length c0_3, .slice A0_4 l0_4.length c0_4], .int .i64 a1] w fun e w' => e = .returned (.int .i64 r) ∧ Below w.heap.size w w' := by
  have hu25 := Try.underlying25
  have HR0_0 := Aside0.mk hr0_0
  have HC0_0 := Aside0.mk hc0_0
  clear hr0_0 hc0_0
  have HR0_1 := Aside0.mk hr0_1
  have HC0_1 := Aside0.mk hc0_1
  clear hr0_1 hc0_1
  have HR0_2 := Aside0.mk hr0_2
  have HC0_2 := Aside0.mk hc0_2
  clear hr0_2 hc0_2
  have HR0_3 := Aside0.mk hr0_3
  have HC0_3 := Aside0.mk hc0_3
  clear hr0_3 hc0_3
  have HR0_4 := Aside0.mk hr0_4
  have HC0_4 := Aside0.mk hc0_4
  clear hr0_4 hc0_4
  have HB := Aside0.mk (Below.refl w.heap.size w)
  have H : ((laws_heldStringS.f k l0_0 a1).bind fun t165 => (if t165 < 0 then (some (-1)) else ((laws_heldStringS.f k l0_1 t165).bind fun t166 => (if t166 < 0 then (some (-1)) else ((laws_heldIntS.f k l0_2 t166).bind fun t167 => (if t167 < 0 then (some (-1)) else ((laws_heldIntS.f k l0_3 t167).bind fun t168 => (if t168 < 0 then (some (-1)) else ((laws_heldIntS.f k l0_4 t168).bind fun t169 => (if t169 < 0 then (some (-1)) else (some t169))))))))))) = some r := h
  clear h
  replace H := Option.bind_eq_some_iff.mp H
  obtain ⟨t165, A30, H⟩ := H
  replace H : (if t165 < 0 then (some (-1)) else ((laws_heldStringS.f k l0_1 t165).bind fun t166 => (if t166 < 0 then (some (-1)) else ((laws_heldIntS.f k l0_2 t166).bind fun t167 => (if t167 < 0 then (some (-1)) else ((laws_heldIntS.f k l0_3 t167).bind fun t168 => (if t168 < 0 then (some (-1)) else ((laws_heldIntS.f k l0_4 t168).bind fun t169 => (if t169 < 0 then (some (-1)) else (some t169)))))))))) = some r := H
  have A3 := Aside0.mk A30
  clear A30
  by_cases c4 : t165 < 0
  · rw [if_pos c4] at H
    have c4b0 : decide (t165 < 0) = true := decide_eq_true c4
    clear c4
    obtain rfl := Option.some.inj H
    go_enter Try.func16, Try.ntmps16
    go_wp2_with (first | ((with_reducible refine gate_dst (N := 2) rfl ?_); refine box_event ?hg (N := 2) ?hd (cs := #[.slice A0_0 l0_0.length c0_0, .slice A0_1 l0_1.length c0_1, .slice A0_2 l0_2.length c0_2, .slice A0_3 l0_3.length c0_3, .slice A0_4 l0_4.length c0_4]) (t := 25) ?hr ?_; (case hd => rfl); (case hg => rfl); (case hr => first | (go_simp; done) | (go_simp; rfl)); intro gb164 hg w5 hbox hb; have n0_ := Aside0.mk (below_step (by repeat (first | (with_reducible first | exact HB.out | apply below_alloc | apply pw_below_drewN | apply below_drew1) | exact HB.out)) hb); have n1_ := Aside0.mk (hbox); have n2_ := Aside0.mk ((by rw [hg]; exact (below_size (by repeat (first | (with_reducible first | exact HB.out | apply below_alloc | apply pw_below_drewN | apply below_drew1) | exact HB.out))) : w.heap.size ≤ gb164)); have n3_ := Aside0.mk ((by rw [hg]; exact (below_size (by repeat (first | (with_reducible first | exact HB.out | apply below_alloc | apply pw_below_drewN | apply below_drew1) | exact HB.out))) : w.heap.size ≤ gb164)); clear HB; have HB := n0_; have BK164 := n1_; have GW164 := n2_; have GE164 := n3_; clear n0_ n1_ n2_ n3_; clear hb hbox hg; have hcz6_0 : w5.cell? ⟨gb164, 0, none⟩ = some (.slice A0_0 l0_0.length c0_0) := (blk_cell BK164.out 0).trans rfl; have hcz6_1 : w5.cell? ⟨gb164, 1, none⟩ = some (.slice A0_1 l0_1.length c0_1) := (blk_cell BK164.out 1).trans rfl; have hcz6_2 : w5.cell? ⟨gb164, 2, none⟩ = some (.slice A0_2 l0_2.length c0_2) := (blk_cell BK164.out 2).trans rfl; have hcz6_3 : w5.cell? ⟨gb164, 3, none⟩ = some (.slice A0_3 l0_3.length c0_3) := (blk_cell BK164.out 3).trans rfl; have hcz6_4 : w5.cell? ⟨gb164, 4, none⟩ = some (.slice A0_4 l0_4.length c0_4) := (blk_cell BK164.out 4).trans rfl; have hfz6_0 := blk_frozen BK164.out 0; have hfz6_1 := blk_frozen BK164.out 1; have hfz6_2 := blk_frozen BK164.out 2; have hfz6_3 := blk_frozen BK164.out 3; have hfz6_4 := blk_frozen BK164.out 4) | ((with_reducible refine gate_callee (f := 47) rfl ?_); refine goesL_ (some 8) rfl rfl Try.func47 (by kernel_rfl) rfl #[.slice A0_0 l0_0.length c0_0, .int .i64 a1] rfl (by (try simp only [List.map_toArray, List.map_cons, List.map_nil]); first | done | rfl | (simp only [List.length_drop, List.length_take]; rfl)) ?_; (with_reducible refine (laws_heldStringS.calls k _ _ l0_0 a1 t165 _ ?side1 ?side2 A3.out).mono ?_); (case side1 => repeat (first | exact (Kd.C_below HR0_0.out HB.out) | (with_reducible refine Kd.C_alloc ?_ _) | (with_reducible refine Kd.C_drewN ?_ _) | (with_reducible refine Kd.C_drew ?_))); (case side2 => exact HC0_0.out); rintro e w7 ⟨rfl, hb⟩; refine ⟨_, rfl, ?_⟩; have n0_ := Aside0.mk (blk_below (g := gb164) (o := .cells #[.slice A0_0 l0_0.length c0_0, .slice A0_1 l0_1.length c0_1, .slice A0_2 l0_2.length c0_2, .slice A0_3 l0_3.length c0_3, .slice A0_4 l0_4.length c0_4] 25 (0, 0)) (by (with_reducible repeat (first | refine blk_drewN ?_ _ | refine blk_drew ?_ | refine blk_alloc ?_ _)); exact BK164.out) hb); have n1_ := Aside0.mk (below_step (by repeat (first | (with_reducible first | exact HB.out | apply below_alloc | apply pw_below_drewN | apply below_drew1 | refine below_set ?_ GE164.out) | exact HB.out)) hb); clear BK164; clear HB; have BK164 := n0_; have HB := n1_; clear n0_ n1_; (try clear hb); (try clear hb2); (try clear hk); (try clear hi)))
    go_ret
    exact ⟨by first | rfl | (simp [errW_none, errW_some] <;> rfl) | (simp [*, errW_none, errW_some] <;> rfl), by repeat (first | (with_reducible first | exact HB.out | apply below_alloc | apply pw_below_drewN | apply below_drew1 | refine below_set ?_ GE164.out) | exact HB.out)⟩
  · rw [if_neg c4] at H
    have c4b0 : decide (t165 < 0) = false := decide_eq_false c4
    clear c4
    replace H := Option.bind_eq_some_iff.mp H
    obtain ⟨t166, A80, H⟩ := H
    replace H : (if t166 < 0 then (some (-1)) else ((laws_heldIntS.f k l0_2 t166).bind fun t167 => (if t167 < 0 then (some (-1)) else ((laws_heldIntS.f k l0_3 t167).bind fun t168 => (if t168 < 0 then (some (-1)) else ((laws_heldIntS.f k l0_4 t168).bind fun t169 => (if t169 < 0 then (some (-1)) else (some t169)))))))) = some r := H
    have A8 := Aside0.mk A80
    clear A80
    by_cases c9 : t166 < 0
    · rw [if_pos c9] at H
      have c9b0 : decide (t166 < 0) = true := decide_eq_true c9
      clear c9
      obtain rfl := Option.some.inj H
      go_enter Try.func16, Try.ntmps16
      go_wp2_with (first | ((with_reducible refine gate_dst (N := 2) rfl ?_); refine box_event ?hg (N := 2) ?hd (cs := #[.slice A0_0 l0_0.length c0_0, .slice A0_1 l0_1.length c0_1, .slice A0_2 l0_2.length c0_2, .slice A0_3 l0_3.length c0_3, .slice A0_4 l0_4.length c0_4]) (t := 25) ?hr ?_; (case hd => rfl); (case hg => rfl); (case hr => first | (go_simp; done) | (go_simp; rfl)); intro gb164 hg w10 hbox hb; have n0_ := Aside0.mk (below_step (by repeat (first | (with_reducible first | exact HB.out | apply below_alloc | apply pw_below_drewN | apply below_drew1) | exact HB.out)) hb); have n1_ := Aside0.mk (hbox); have n2_ := Aside0.mk ((by rw [hg]; exact (below_size (by repeat (first | (with_reducible first | exact HB.out | apply below_alloc | apply pw_below_drewN | apply below_drew1) | exact HB.out))) : w.heap.size ≤ gb164)); have n3_ := Aside0.mk ((by rw [hg]; exact (below_size (by repeat (first | (with_reducible first | exact HB.out | apply below_alloc | apply pw_below_drewN | apply below_drew1) | exact HB.out))) : w.heap.size ≤ gb164)); clear HB; have HB := n0_; have BK164 := n1_; have GW164 := n2_; have GE164 := n3_; clear n0_ n1_ n2_ n3_; clear hb hbox hg; have hcz11_0 : w10.cell? ⟨gb164, 0, none⟩ = some (.slice A0_0 l0_0.length c0_0) := (blk_cell BK164.out 0).trans rfl; have hcz11_1 : w10.cell? ⟨gb164, 1, none⟩ = some (.slice A0_1 l0_1.length c0_1) := (blk_cell BK164.out 1).trans rfl; have hcz11_2 : w10.cell? ⟨gb164, 2, none⟩ = some (.slice A0_2 l0_2.length c0_2) := (blk_cell BK164.out 2).trans rfl; have hcz11_3 : w10.cell? ⟨gb164, 3, none⟩ = some (.slice A0_3 l0_3.length c0_3) := (blk_cell BK164.out 3).trans rfl; have hcz11_4 : w10.cell? ⟨gb164, 4, none⟩ = some (.slice A0_4 l0_4.length c0_4) := (blk_cell BK164.out 4).trans rfl; have hfz11_0 := blk_frozen BK164.out 0; have hfz11_1 := blk_frozen BK164.out 1; have hfz11_2 := blk_frozen BK164.out 2; have hfz11_3 := blk_frozen BK164.out 3; have hfz11_4 := blk_frozen BK164.out 4) | ((with_reducible refine gate_callee (f := 47) rfl ?_); refine goesL_ (some 8) rfl rfl Try.func47 (by kernel_rfl) rfl #[.slice A0_0 l0_0.length c0_0, .int .i64 a1] rfl (by (try simp only [List.map_toArray, List.map_cons, List.map_nil]); first | done | rfl | (simp only [List.length_drop, List.length_take]; rfl)) ?_; (with_reducible refine (laws_heldStringS.calls k _ _ l0_0 a1 t165 _ ?side1 ?side2 A3.out).mono ?_); (case side1 => repeat (first | exact (Kd.C_below HR0_0.out HB.out) | (with_reducible refine Kd.C_alloc ?_ _) | (with_reducible refine Kd.C_drewN ?_ _) | (with_reducible refine Kd.C_drew ?_))); (case side2 => exact HC0_0.out); rintro e w12 ⟨rfl, hb⟩; refine ⟨_, rfl, ?_⟩; have n0_ := Aside0.mk (blk_below (g := gb164) (o := .cells #[.slice A0_0 l0_0.length c0_0, .slice A0_1 l0_1.length c0_1, .slice A0_2 l0_2.length c0_2, .slice A0_3 l0_3.length c0_3, .slice A0_4 l0_4.length c0_4] 25 (0, 0)) (by (with_reducible repeat (first | refine blk_drewN ?_ _ | refine blk_drew ?_ | refine blk_alloc ?_ _)); exact BK164.out) hb); have n1_ := Aside0.mk (below_step (by repeat (first | (with_reducible first | exact HB.out | apply below_alloc | apply pw_below_drewN | apply below_drew1 | refine below_set ?_ GE164.out) | exact HB.out)) hb); clear BK164; clear HB; have BK164 := n0_; have HB := n1_; clear n0_ n1_; (try clear hb); (try clear hb2); (try clear hk); (try clear hi); have hcz13_0 : w12.cell? ⟨gb164, 0, none⟩ = some (.slice A0_0 l0_0.length c0_0) := (blk_cell BK164.out 0).trans rfl; have hcz13_1 : w12.cell? ⟨gb164, 1, none⟩ = some (.slice A0_1 l0_1.length c0_1) := (blk_cell BK164.out 1).trans rfl; have hcz13_2 : w12.cell? ⟨gb164, 2, none⟩ = some (.slice A0_2 l0_2.length c0_2) := (blk_cell BK164.out 2).trans rfl; have hcz13_3 : w12.cell? ⟨gb164, 3, none⟩ = some (.slice A0_3 l0_3.length c0_3) := (blk_cell BK164.out 3).trans rfl; have hcz13_4 : w12.cell? ⟨gb164, 4, none⟩ = some (.slice A0_4 l0_4.length c0_4) := (blk_cell BK164.out 4).trans rfl; have hfz13_0 := blk_frozen BK164.out 0; have hfz13_1 := blk_frozen BK164.out 1; have hfz13_2 := blk_frozen BK164.out 2; have hfz13_3 := blk_frozen BK164.out 3; have hfz13_4 := blk_frozen BK164.out 4) | ((with_reducible refine gate_callee (f := 47) rfl ?_); refine goesL_ (some 14) rfl rfl Try.func47 (by kernel_rfl) rfl #[.slice A0_1 l0_1.length c0_1, .int .i64 t165] rfl (by (try simp only [List.map_toArray, List.map_cons, List.map_nil]); first | done | rfl | (simp only [List.length_drop, List.length_take]; rfl)) ?_; (with_reducible refine (laws_heldStringS.calls k _ _ l0_1 t165 t166 _ ?side1 ?side2 A8.out).mono ?_); (case side1 => repeat (first | exact (Kd.C_below HR0_1.out HB.out) | (with_reducible refine Kd.C_alloc ?_ _) | (with_reducible refine Kd.C_drewN ?_ _) | (with_reducible refine Kd.C_drew ?_))); (case side2 => exact HC0_1.out); rintro e w14 ⟨rfl, hb⟩; refine ⟨_, rfl, ?_⟩; have n0_ := Aside0.mk (blk_below (g := gb164) (o := .cells #[.slice A0_0 l0_0.length c0_0, .slice A0_1 l0_1.length c0_1, .slice A0_2 l0_2.length c0_2, .slice A0_3 l0_3.length c0_3, .slice A0_4 l0_4.length c0_4] 25 (0, 0)) (by (with_reducible repeat (first | refine blk_drewN ?_ _ | refine blk_drew ?_ | refine blk_alloc ?_ _)); exact BK164.out) hb); have n1_ := Aside0.mk (below_step (by repeat (first | (with_reducible first | exact HB.out | apply below_alloc | apply pw_below_drewN | apply below_drew1 | refine below_set ?_ GE164.out) | exact HB.out)) hb); clear BK164; clear HB; have BK164 := n0_; have HB := n1_; clear n0_ n1_; (try clear hb); (try clear hb2); (try clear hk); (try clear hi)))
      go_ret
      exact ⟨by first | rfl | (simp [errW_none, errW_some] <;> rfl) | (simp [*, errW_none, errW_some] <;> rfl), by repeat (first | (with_reducible first | exact HB.out | apply below_alloc | apply pw_below_drewN | apply below_drew1 | refine below_set ?_ GE164.out) | exact HB.out)⟩
    · rw [if_neg c9] at H
      have c9b0 : decide (t166 < 0) = false := decide_eq_false c9
      clear c9
      replace H := Option.bind_eq_some_iff.mp H
      obtain ⟨t167, A150, H⟩ := H
      replace H : (if t167 < 0 then (some (-1)) else ((laws_heldIntS.f k l0_3 t167).bind fun t168 => (if t168 < 0 then (some (-1)) else ((laws_heldIntS.f k l0_4 t168).bind fun t169 => (if t169 < 0 then (some (-1)) else (some t169)))))) = some r := H
      have A15 := Aside0.mk A150
      clear A150
      by_cases c16 : t167 < 0
      · rw [if_pos c16] at H
        have c16b0 : decide (t167 < 0) = true := decide_eq_true c16
        clear c16
        obtain rfl := Option.some.inj H
        go_enter Try.func16, Try.ntmps16
        go_wp2_with (first | ((with_reducible refine gate_dst (N := 2) rfl ?_); refine box_event ?hg (N := 2) ?hd (cs := #[.slice A0_0 l0_0.length c0_0, .slice A0_1 l0_1.length c0_1, .slice A0_2 l0_2.length c0_2, .slice A0_3 l0_3.length c0_3, .slice A0_4 l0_4.length c0_4]) (t := 25) ?hr ?_; (case hd => rfl); (case hg => rfl); (case hr => first | (go_simp; done) | (go_simp; rfl)); intro gb164 hg w17 hbox hb; have n0_ := Aside0.mk (below_step (by repeat (first | (with_reducible first | exact HB.out | apply below_alloc | apply pw_below_drewN | apply below_drew1) | exact HB.out)) hb); have n1_ := Aside0.mk (hbox); have n2_ := Aside0.mk ((by rw [hg]; exact (below_size (by repeat (first | (with_reducible first | exact HB.out | apply below_alloc | apply pw_below_drewN | apply below_drew1) | exact HB.out))) : w.heap.size ≤ gb164)); have n3_ := Aside0.mk ((by rw [hg]; exact (below_size (by repeat (first | (with_reducible first | exact HB.out | apply below_alloc | apply pw_below_drewN | apply below_drew1) | exact HB.out))) : w.heap.size ≤ gb164)); clear HB; have HB := n0_; have BK164 := n1_; have GW164 := n2_; have GE164 := n3_; clear n0_ n1_ n2_ n3_; clear hb hbox hg; have hcz18_0 : w17.cell? ⟨gb164, 0, none⟩ = some (.slice A0_0 l0_0.length c0_0) := (blk_cell BK164.out 0).trans rfl; have hcz18_1 : w17.cell? ⟨gb164, 1, none⟩ = some (.slice A0_1 l0_1.length c0_1) := (blk_cell BK164.out 1).trans rfl; have hcz18_2 : w17.cell? ⟨gb164, 2, none⟩ = some (.slice A0_2 l0_2.length c0_2) := (blk_cell BK164.out 2).trans rfl; have hcz18_3 : w17.cell? ⟨gb164, 3, none⟩ = some (.slice A0_3 l0_3.length c0_3) := (blk_cell BK164.out 3).trans rfl; have hcz18_4 : w17.cell? ⟨gb164, 4, none⟩ = some (.slice A0_4 l0_4.length c0_4) := (blk_cell BK164.out 4).trans rfl; have hfz18_0 := blk_frozen BK164.out 0; have hfz18_1 := blk_frozen BK164.out 1; have hfz18_2 := blk_frozen BK164.out 2; have hfz18_3 := blk_frozen BK164.out 3; have hfz18_4 := blk_frozen BK164.out 4) | ((with_reducible refine gate_callee (f := 47) rfl ?_); refine goesL_ (some 8) rfl rfl Try.func47 (by kernel_rfl) rfl #[.slice A0_0 l0_0.length c0_0, .int .i64 a1] rfl (by (try simp only [List.map_toArray, List.map_cons, List.map_nil]); first | done | rfl | (simp only [List.length_drop, List.length_take]; rfl)) ?_; (with_reducible refine (laws_heldStringS.calls k _ _ l0_0 a1 t165 _ ?side1 ?side2 A3.out).mono ?_); (case side1 => repeat (first | exact (Kd.C_below HR0_0.out HB.out) | (with_reducible refine Kd.C_alloc ?_ _) | (with_reducible refine Kd.C_drewN ?_ _) | (with_reducible refine Kd.C_drew ?_))); (case side2 => exact HC0_0.out); rintro e w19 ⟨rfl, hb⟩; refine ⟨_, rfl, ?_⟩; have n0_ := Aside0.mk (blk_below (g := gb164) (o := .cells #[.slice A0_0 l0_0.length c0_0, .slice A0_1 l0_1.length c0_1, .slice A0_2 l0_2.length c0_2, .slice A0_3 l0_3.length c0_3, .slice A0_4 l0_4.length c0_4] 25 (0, 0)) (by (with_reducible repeat (first | refine blk_drewN ?_ _ | refine blk_drew ?_ | refine blk_alloc ?_ _)); exact BK164.out) hb); have n1_ := Aside0.mk (below_step (by repeat (first | (with_reducible first | exact HB.out | apply below_alloc | apply pw_below_drewN | apply below_drew1 | refine below_set ?_ GE164.out) | exact HB.out)) hb); clear BK164; clear HB; have BK164 := n0_; have HB := n1_; clear n0_ n1_; (try clear hb); (try clear hb2); (try clear hk); (try clear hi); have hcz20_0 : w19.cell? ⟨gb164, 0, none⟩ = some (.slice A0_0 l0_0.length c0_0) := (blk_cell BK164.out 0).trans rfl; have hcz20_1 : w19.cell? ⟨gb164, 1, none⟩ = some (.slice A0_1 l0_1.length c0_1) := (blk_cell BK164.out 1).trans rfl; have hcz20_2 : w19.cell? ⟨gb164, 2, none⟩ = some (.slice A0_2 l0_2.length c0_2) := (blk_cell BK164.out 2).trans rfl; have hcz20_3 : w19.cell? ⟨gb164, 3, none⟩ = some (.slice A0_3 l0_3.length c0_3) := (blk_cell BK164.out 3).trans rfl; have hcz20_4 : w19.cell? ⟨gb164, 4, none⟩ = some (.slice A0_4 l0_4.length c0_4) := (blk_cell BK164.out 4).trans rfl; have hfz20_0 := blk_frozen BK164.out 0; have hfz20_1 := blk_frozen BK164.out 1; have hfz20_2 := blk_frozen BK164.out 2; have hfz20_3 := blk_frozen BK164.out 3; have hfz20_4 := blk_frozen BK164.out 4) | ((with_reducible refine gate_callee (f := 47) rfl ?_); refine goesL_ (some 14) rfl rfl Try.func47 (by kernel_rfl) rfl #[.slice A0_1 l0_1.length c0_1, .int .i64 t165] rfl (by (try simp only [List.map_toArray, List.map_cons, List.map_nil]); first | done | rfl | (simp only [List.length_drop, List.length_take]; rfl)) ?_; (with_reducible refine (laws_heldStringS.calls k _ _ l0_1 t165 t166 _ ?side1 ?side2 A8.out).mono ?_); (case side1 => repeat (first | exact (Kd.C_below HR0_1.out HB.out) | (with_reducible refine Kd.C_alloc ?_ _) | (with_reducible refine Kd.C_drewN ?_ _) | (with_reducible refine Kd.C_drew ?_))); (case side2 => exact HC0_1.out); rintro e w21 ⟨rfl, hb⟩; refine ⟨_, rfl, ?_⟩; have n0_ := Aside0.mk (blk_below (g := gb164) (o := .cells #[.slice A0_0 l0_0.length c0_0, .slice A0_1 l0_1.length c0_1, .slice A0_2 l0_2.length c0_2, .slice A0_3 l0_3.length c0_3, .slice A0_4 l0_4.length c0_4] 25 (0, 0)) (by (with_reducible repeat (first | refine blk_drewN ?_ _ | refine blk_drew ?_ | refine blk_alloc ?_ _)); exact BK164.out) hb); have n1_ := Aside0.mk (below_step (by repeat (first | (with_reducible first | exact HB.out | apply below_alloc | apply pw_below_drewN | apply below_drew1 | refine below_set ?_ GE164.out) | exact HB.out)) hb); clear BK164; clear HB; have BK164 := n0_; have HB := n1_; clear n0_ n1_; (try clear hb); (try clear hb2); (try clear hk); (try clear hi); have hcz22_0 : w21.cell? ⟨gb164, 0, none⟩ = some (.slice A0_0 l0_0.length c0_0) := (blk_cell BK164.out 0).trans rfl; have hcz22_1 : w21.cell? ⟨gb164, 1, none⟩ = some (.slice A0_1 l0_1.length c0_1) := (blk_cell BK164.out 1).trans rfl; have hcz22_2 : w21.cell? ⟨gb164, 2, none⟩ = some (.slice A0_2 l0_2.length c0_2) := (blk_cell BK164.out 2).trans rfl; have hcz22_3 : w21.cell? ⟨gb164, 3, none⟩ = some (.slice A0_3 l0_3.length c0_3) := (blk_cell BK164.out 3).trans rfl; have hcz22_4 : w21.cell? ⟨gb164, 4, none⟩ = some (.slice A0_4 l0_4.length c0_4) := (blk_cell BK164.out 4).trans rfl; have hfz22_0 := blk_frozen BK164.out 0; have hfz22_1 := blk_frozen BK164.out 1; have hfz22_2 := blk_frozen BK164.out 2; have hfz22_3 := blk_frozen BK164.out 3; have hfz22_4 := blk_frozen BK164.out 4) | ((with_reducible refine gate_callee (f := 40) rfl ?_); refine goesL_ (some 20) rfl rfl Try.func40 (by kernel_rfl) rfl #[.slice A0_2 l0_2.length c0_2, .int .i64 t166] rfl (by (try simp only [List.map_toArray, List.map_cons, List.map_nil]); first | done | rfl | (simp only [List.length_drop, List.length_take]; rfl)) ?_; (with_reducible refine (laws_heldIntS.calls k _ _ l0_2 t166 t167 _ ?side1 ?side2 A15.out).mono ?_); (case side1 => repeat (first | exact (Kd.C_below HR0_2.out HB.out) | (with_reducible refine Kd.C_alloc ?_ _) | (with_reducible refine Kd.C_drewN ?_ _) | (with_reducible refine Kd.C_drew ?_))); (case side2 => exact HC0_2.out); rintro e w' ⟨rfl, ⟨nd, rfl⟩⟩; refine ⟨_, rfl, ?_⟩))
        go_ret
        exact ⟨by first | rfl | (simp [errW_none, errW_some] <;> rfl) | (simp [*, errW_none, errW_some] <;> rfl), by repeat (first | (with_reducible first | exact HB.out | apply below_alloc | apply pw_below_drewN | apply below_drew1 | refine below_set ?_ GE164.out) | exact HB.out)⟩
      · rw [if_neg c16] at H
        have c16b0 : decide (t167 < 0) = false := decide_eq_false c16
        clear c16
        replace H := Option.bind_eq_some_iff.mp H
        obtain ⟨t168, A230, H⟩ := H
        replace H : (if t168 < 0 then (some (-1)) else ((laws_heldIntS.f k l0_4 t168).bind fun t169 => (if t169 < 0 then (some (-1)) else (some t169)))) = some r := H
        have A23 := Aside0.mk A230
        clear A230
        by_cases c24 : t168 < 0
        · rw [if_pos c24] at H
          have c24b0 : decide (t168 < 0) = true := decide_eq_true c24
          clear c24
          obtain rfl := Option.some.inj H
          go_enter Try.func16, Try.ntmps16
          go_wp2_with (first | ((with_reducible refine gate_dst (N := 2) rfl ?_); refine box_event ?hg (N := 2) ?hd (cs := #[.slice A0_0 l0_0.length c0_0, .slice A0_1 l0_1.length c0_1, .slice A0_2 l0_2.length c0_2, .slice A0_3 l0_3.length c0_3, .slice A0_4 l0_4.length c0_4]) (t := 25) ?hr ?_; (case hd => rfl); (case hg => rfl); (case hr => first | (go_simp; done) | (go_simp; rfl)); intro gb164 hg w25 hbox hb; have n0_ := Aside0.mk (below_step (by repeat (first | (with_reducible first | exact HB.out | apply below_alloc | apply pw_below_drewN | apply below_drew1) | exact HB.out)) hb); have n1_ := Aside0.mk (hbox); have n2_ := Aside0.mk ((by rw [hg]; exact (below_size (by repeat (first | (with_reducible first | exact HB.out | apply below_alloc | apply pw_below_drewN | apply below_drew1) | exact HB.out))) : w.heap.size ≤ gb164)); have n3_ := Aside0.mk ((by rw [hg]; exact (below_size (by repeat (first | (with_reducible first | exact HB.out | apply below_alloc | apply pw_below_drewN | apply below_drew1) | exact HB.out))) : w.heap.size ≤ gb164)); clear HB; have HB := n0_; have BK164 := n1_; have GW164 := n2_; have GE164 := n3_; clear n0_ n1_ n2_ n3_; clear hb hbox hg; have hcz26_0 : w25.cell? ⟨gb164, 0, none⟩ = some (.slice A0_0 l0_0.length c0_0) := (blk_cell BK164.out 0).trans rfl; have hcz26_1 : w25.cell? ⟨gb164, 1, none⟩ = some (.slice A0_1 l0_1.length c0_1) := (blk_cell BK164.out 1).trans rfl; have hcz26_2 : w25.cell? ⟨gb164, 2, none⟩ = some (.slice A0_2 l0_2.length c0_2) := (blk_cell BK164.out 2).trans rfl; have hcz26_3 : w25.cell? ⟨gb164, 3, none⟩ = some (.slice A0_3 l0_3.length c0_3) := (blk_cell BK164.out 3).trans rfl; have hcz26_4 : w25.cell? ⟨gb164, 4, none⟩ = some (.slice A0_4 l0_4.length c0_4) := (blk_cell BK164.out 4).trans rfl; have hfz26_0 := blk_frozen BK164.out 0; have hfz26_1 := blk_frozen BK164.out 1; have hfz26_2 := blk_frozen BK164.out 2; have hfz26_3 := blk_frozen BK164.out 3; have hfz26_4 := blk_frozen BK164.out 4) | ((with_reducible refine gate_callee (f := 47) rfl ?_); refine goesL_ (some 8) rfl rfl Try.func47 (by kernel_rfl) rfl #[.slice A0_0 l0_0.length c0_0, .int .i64 a1] rfl (by (try simp only [List.map_toArray, List.map_cons, List.map_nil]); first | done | rfl | (simp only [List.length_drop, List.length_take]; rfl)) ?_; (with_reducible refine (laws_heldStringS.calls k _ _ l0_0 a1 t165 _ ?side1 ?side2 A3.out).mono ?_); (case side1 => repeat (first | exact (Kd.C_below HR0_0.out HB.out) | (with_reducible refine Kd.C_alloc ?_ _) | (with_reducible refine Kd.C_drewN ?_ _) | (with_reducible refine Kd.C_drew ?_))); (case side2 => exact HC0_0.out); rintro e w27 ⟨rfl, hb⟩; refine ⟨_, rfl, ?_⟩; have n0_ := Aside0.mk (blk_below (g := gb164) (o := .cells #[.slice A0_0 l0_0.length c0_0, .slice A0_1 l0_1.length c0_1, .slice A0_2 l0_2.length c0_2, .slice A0_3 l0_3.length c0_3, .slice A0_4 l0_4.length c0_4] 25 (0, 0)) (by (with_reducible repeat (first | refine blk_drewN ?_ _ | refine blk_drew ?_ | refine blk_alloc ?_ _)); exact BK164.out) hb); have n1_ := Aside0.mk (below_step (by repeat (first | (with_reducible first | exact HB.out | apply below_alloc | apply pw_below_drewN | apply below_drew1 | refine below_set ?_ GE164.out) | exact HB.out)) hb); clear BK164; clear HB; have BK164 := n0_; have HB := n1_; clear n0_ n1_; (try clear hb); (try clear hb2); (try clear hk); (try clear hi); have hcz28_0 : w27.cell? ⟨gb164, 0, none⟩ = some (.slice A0_0 l0_0.length c0_0) := (blk_cell BK164.out 0).trans rfl; have hcz28_1 : w27.cell? ⟨gb164, 1, none⟩ = some (.slice A0_1 l0_1.length c0_1) := (blk_cell BK164.out 1).trans rfl; have hcz28_2 : w27.cell? ⟨gb164, 2, none⟩ = some (.slice A0_2 l0_2.length c0_2) := (blk_cell BK164.out 2).trans rfl; have hcz28_3 : w27.cell? ⟨gb164, 3, none⟩ = some (.slice A0_3 l0_3.length c0_3) := (blk_cell BK164.out 3).trans rfl; have hcz28_4 : w27.cell? ⟨gb164, 4, none⟩ = some (.slice A0_4 l0_4.length c0_4) := (blk_cell BK164.out 4).trans rfl; have hfz28_0 := blk_frozen BK164.out 0; have hfz28_1 := blk_frozen BK164.out 1; have hfz28_2 := blk_frozen BK164.out 2; have hfz28_3 := blk_frozen BK164.out 3; have hfz28_4 := blk_frozen BK164.out 4) | ((with_reducible refine gate_callee (f := 47) rfl ?_); refine goesL_ (some 14) rfl rfl Try.func47 (by kernel_rfl) rfl #[.slice A0_1 l0_1.length c0_1, .int .i64 t165] rfl (by (try simp only [List.map_toArray, List.map_cons, List.map_nil]); first | done | rfl | (simp only [List.length_drop, List.length_take]; rfl)) ?_; (with_reducible refine (laws_heldStringS.calls k _ _ l0_1 t165 t166 _ ?side1 ?side2 A8.out).mono ?_); (case side1 => repeat (first | exact (Kd.C_below HR0_1.out HB.out) | (with_reducible refine Kd.C_alloc ?_ _) | (with_reducible refine Kd.C_drewN ?_ _) | (with_reducible refine Kd.C_drew ?_))); (case side2 => exact HC0_1.out); rintro e w29 ⟨rfl, hb⟩; refine ⟨_, rfl, ?_⟩; have n0_ := Aside0.mk (blk_below (g := gb164) (o := .cells #[.slice A0_0 l0_0.length c0_0, .slice A0_1 l0_1.length c0_1, .slice A0_2 l0_2.length c0_2, .slice A0_3 l0_3.length c0_3, .slice A0_4 l0_4.length c0_4] 25 (0, 0)) (by (with_reducible repeat (first | refine blk_drewN ?_ _ | refine blk_drew ?_ | refine blk_alloc ?_ _)); exact BK164.out) hb); have n1_ := Aside0.mk (below_step (by repeat (first | (with_reducible first | exact HB.out | apply below_alloc | apply pw_below_drewN | apply below_drew1 | refine below_set ?_ GE164.out) | exact HB.out)) hb); clear BK164; clear HB; have BK164 := n0_; have HB := n1_; clear n0_ n1_; (try clear hb); (try clear hb2); (try clear hk); (try clear hi); have hcz30_0 : w29.cell? ⟨gb164, 0, none⟩ = some (.slice A0_0 l0_0.length c0_0) := (blk_cell BK164.out 0).trans rfl; have hcz30_1 : w29.cell? ⟨gb164, 1, none⟩ = some (.slice A0_1 l0_1.length c0_1) := (blk_cell BK164.out 1).trans rfl; have hcz30_2 : w29.cell? ⟨gb164, 2, none⟩ = some (.slice A0_2 l0_2.length c0_2) := (blk_cell BK164.out 2).trans rfl; have hcz30_3 : w29.cell? ⟨gb164, 3, none⟩ = some (.slice A0_3 l0_3.length c0_3) := (blk_cell BK164.out 3).trans rfl; have hcz30_4 : w29.cell? ⟨gb164, 4, none⟩ = some (.slice A0_4 l0_4.length c0_4) := (blk_cell BK164.out 4).trans rfl; have hfz30_0 := blk_frozen BK164.out 0; have hfz30_1 := blk_frozen BK164.out 1; have hfz30_2 := blk_frozen BK164.out 2; have hfz30_3 := blk_frozen BK164.out 3; have hfz30_4 := blk_frozen BK164.out 4) | ((with_reducible refine gate_callee (f := 40) rfl ?_); refine goesL_ (some 20) rfl rfl Try.func40 (by kernel_rfl) rfl #[.slice A0_2 l0_2.length c0_2, .int .i64 t166] rfl (by (try simp only [List.map_toArray, List.map_cons, List.map_nil]); first | done | rfl | (simp only [List.length_drop, List.length_take]; rfl)) ?_; (with_reducible refine (laws_heldIntS.calls k _ _ l0_2 t166 t167 _ ?side1 ?side2 A15.out).mono ?_); (case side1 => repeat (first | exact (Kd.C_below HR0_2.out HB.out) | (with_reducible refine Kd.C_alloc ?_ _) | (with_reducible refine Kd.C_drewN ?_ _) | (with_reducible refine Kd.C_drew ?_))); (case side2 => exact HC0_2.out); rintro e w' ⟨rfl, ⟨nd, rfl⟩⟩; refine ⟨_, rfl, ?_⟩) | ((with_reducible refine gate_callee (f := 40) rfl ?_); refine goesL_ (some 26) rfl rfl Try.func40 (by kernel_rfl) rfl #[.slice A0_3 l0_3.length c0_3, .int .i64 t167] rfl (by (try simp only [List.map_toArray, List.map_cons, List.map_nil]); first | done | rfl | (simp only [List.length_drop, List.length_take]; rfl)) ?_; (with_reducible refine (laws_heldIntS.calls k _ _ l0_3 t167 t168 _ ?side1 ?side2 A23.out).mono ?_); (case side1 => repeat (first | exact (Kd.C_below HR0_3.out (by repeat (first | (with_reducible first | exact HB.out | apply below_alloc | apply pw_below_drewN | apply below_drew1 | refine below_set ?_ GE164.out) | exact HB.out))) | (with_reducible refine Kd.C_alloc ?_ _) | (with_reducible refine Kd.C_drewN ?_ _) | (with_reducible refine Kd.C_drew ?_))); (case side2 => exact HC0_3.out); rintro e w' ⟨rfl, ⟨nd, rfl⟩⟩; refine ⟨_, rfl, ?_⟩))
          go_ret
          exact ⟨by first | rfl | (simp [errW_none, errW_some] <;> rfl) | (simp [*, errW_none, errW_some] <;> rfl), by repeat (first | (with_reducible first | exact HB.out | apply below_alloc | apply pw_below_drewN | apply below_drew1 | refine below_set ?_ GE164.out) | exact HB.out)⟩
        · rw [if_neg c24] at H
          have c24b0 : decide (t168 < 0) = false := decide_eq_false c24
          clear c24
          replace H := Option.bind_eq_some_iff.mp H
          obtain ⟨t169, A310, H⟩ := H
          replace H : (if t169 < 0 then (some (-1)) else (some t169)) = some r := H
          have A31 := Aside0.mk A310
          clear A310
          by_cases c32 : t169 < 0
          · rw [if_pos c32] at H
            have c32b0 : decide (t169 < 0) = true := decide_eq_true c32
            clear c32
            obtain rfl := Option.some.inj H
            go_enter Try.func16, Try.ntmps16
            go_wp2_with (first | ((with_reducible refine gate_dst (N := 2) rfl ?_); refine box_event ?hg (N := 2) ?hd (cs := #[.slice A0_0 l0_0.length c0_0, .slice A0_1 l0_1.length c0_1, .slice A0_2 l0_2.length c0_2, .slice A0_3 l0_3.length c0_3, .slice A0_4 l0_4.length c0_4]) (t := 25) ?hr ?_; (case hd => rfl); (case hg => rfl); (case hr => first | (go_simp; done) | (go_simp; rfl)); intro gb164 hg w33 hbox hb; have n0_ := Aside0.mk (below_step (by repeat (first | (with_reducible first | exact HB.out | apply below_alloc | apply pw_below_drewN | apply below_drew1) | exact HB.out)) hb); have n1_ := Aside0.mk (hbox); have n2_ := Aside0.mk ((by rw [hg]; exact (below_size (by repeat (first | (with_reducible first | exact HB.out | apply below_alloc | apply pw_below_drewN | apply below_drew1) | exact HB.out))) : w.heap.size ≤ gb164)); have n3_ := Aside0.mk ((by rw [hg]; exact (below_size (by repeat (first | (with_reducible first | exact HB.out | apply below_alloc | apply pw_below_drewN | apply below_drew1) | exact HB.out))) : w.heap.size ≤ gb164)); clear HB; have HB := n0_; have BK164 := n1_; have GW164 := n2_; have GE164 := n3_; clear n0_ n1_ n2_ n3_; clear hb hbox hg; have hcz34_0 : w33.cell? ⟨gb164, 0, none⟩ = some (.slice A0_0 l0_0.length c0_0) := (blk_cell BK164.out 0).trans rfl; have hcz34_1 : w33.cell? ⟨gb164, 1, none⟩ = some (.slice A0_1 l0_1.length c0_1) := (blk_cell BK164.out 1).trans rfl; have hcz34_2 : w33.cell? ⟨gb164, 2, none⟩ = some (.slice A0_2 l0_2.length c0_2) := (blk_cell BK164.out 2).trans rfl; have hcz34_3 : w33.cell? ⟨gb164, 3, none⟩ = some (.slice A0_3 l0_3.length c0_3) := (blk_cell BK164.out 3).trans rfl; have hcz34_4 : w33.cell? ⟨gb164, 4, none⟩ = some (.slice A0_4 l0_4.length c0_4) := (blk_cell BK164.out 4).trans rfl; have hfz34_0 := blk_frozen BK164.out 0; have hfz34_1 := blk_frozen BK164.out 1; have hfz34_2 := blk_frozen BK164.out 2; have hfz34_3 := blk_frozen BK164.out 3; have hfz34_4 := blk_frozen BK164.out 4) | ((with_reducible refine gate_callee (f := 47) rfl ?_); refine goesL_ (some 8) rfl rfl Try.func47 (by kernel_rfl) rfl #[.slice A0_0 l0_0.length c0_0, .int .i64 a1] rfl (by (try simp only [List.map_toArray, List.map_cons, List.map_nil]); first | done | rfl | (simp only [List.length_drop, List.length_take]; rfl)) ?_; (with_reducible refine (laws_heldStringS.calls k _ _ l0_0 a1 t165 _ ?side1 ?side2 A3.out).mono ?_); (case side1 => repeat (first | exact (Kd.C_below HR0_0.out HB.out) | (with_reducible refine Kd.C_alloc ?_ _) | (with_reducible refine Kd.C_drewN ?_ _) | (with_reducible refine Kd.C_drew ?_))); (case side2 => exact HC0_0.out); rintro e w35 ⟨rfl, hb⟩; refine ⟨_, rfl, ?_⟩; have n0_ := Aside0.mk (blk_below (g := gb164) (o := .cells #[.slice A0_0 l0_0.length c0_0, .slice A0_1 l0_1.length c0_1, .slice A0_2 l0_2.length c0_2, .slice A0_3 l0_3.length c0_3, .slice A0_4 l0_4.length c0_4] 25 (0, 0)) (by (with_reducible repeat (first | refine blk_drewN ?_ _ | refine blk_drew ?_ | refine blk_alloc ?_ _)); exact BK164.out) hb); have n1_ := Aside0.mk (below_step (by repeat (first | (with_reducible first | exact HB.out | apply below_alloc | apply pw_below_drewN | apply below_drew1 | refine below_set ?_ GE164.out) | exact HB.out)) hb); clear BK164; clear HB; have BK164 := n0_; have HB := n1_; clear n0_ n1_; (try clear hb); (try clear hb2); (try clear hk); (try clear hi); have hcz36_0 : w35.cell? ⟨gb164, 0, none⟩ = some (.slice A0_0 l0_0.length c0_0) := (blk_cell BK164.out 0).trans rfl; have hcz36_1 : w35.cell? ⟨gb164, 1, none⟩ = some (.slice A0_1 l0_1.length c0_1) := (blk_cell BK164.out 1).trans rfl; have hcz36_2 : w35.cell? ⟨gb164, 2, none⟩ = some (.slice A0_2 l0_2.length c0_2) := (blk_cell BK164.out 2).trans rfl; have hcz36_3 : w35.cell? ⟨gb164, 3, none⟩ = some (.slice A0_3 l0_3.length c0_3) := (blk_cell BK164.out 3).trans rfl; have hcz36_4 : w35.cell? ⟨gb164, 4, none⟩ = some (.slice A0_4 l0_4.length c0_4) := (blk_cell BK164.out 4).trans rfl; have hfz36_0 := blk_frozen BK164.out 0; have hfz36_1 := blk_frozen BK164.out 1; have hfz36_2 := blk_frozen BK164.out 2; have hfz36_3 := blk_frozen BK164.out 3; have hfz36_4 := blk_frozen BK164.out 4) | ((with_reducible refine gate_callee (f := 47) rfl ?_); refine goesL_ (some 14) rfl rfl Try.func47 (by kernel_rfl) rfl #[.slice A0_1 l0_1.length c0_1, .int .i64 t165] rfl (by (try simp only [List.map_toArray, List.map_cons, List.map_nil]); first | done | rfl | (simp only [List.length_drop, List.length_take]; rfl)) ?_; (with_reducible refine (laws_heldStringS.calls k _ _ l0_1 t165 t166 _ ?side1 ?side2 A8.out).mono ?_); (case side1 => repeat (first | exact (Kd.C_below HR0_1.out HB.out) | (with_reducible refine Kd.C_alloc ?_ _) | (with_reducible refine Kd.C_drewN ?_ _) | (with_reducible refine Kd.C_drew ?_))); (case side2 => exact HC0_1.out); rintro e w37 ⟨rfl, hb⟩; refine ⟨_, rfl, ?_⟩; have n0_ := Aside0.mk (blk_below (g := gb164) (o := .cells #[.slice A0_0 l0_0.length c0_0, .slice A0_1 l0_1.length c0_1, .slice A0_2 l0_2.length c0_2, .slice A0_3 l0_3.length c0_3, .slice A0_4 l0_4.length c0_4] 25 (0, 0)) (by (with_reducible repeat (first | refine blk_drewN ?_ _ | refine blk_drew ?_ | refine blk_alloc ?_ _)); exact BK164.out) hb); have n1_ := Aside0.mk (below_step (by repeat (first | (with_reducible first | exact HB.out | apply below_alloc | apply pw_below_drewN | apply below_drew1 | refine below_set ?_ GE164.out) | exact HB.out)) hb); clear BK164; clear HB; have BK164 := n0_; have HB := n1_; clear n0_ n1_; (try clear hb); (try clear hb2); (try clear hk); (try clear hi); have hcz38_0 : w37.cell? ⟨gb164, 0, none⟩ = some (.slice A0_0 l0_0.length c0_0) := (blk_cell BK164.out 0).trans rfl; have hcz38_1 : w37.cell? ⟨gb164, 1, none⟩ = some (.slice A0_1 l0_1.length c0_1) := (blk_cell BK164.out 1).trans rfl; have hcz38_2 : w37.cell? ⟨gb164, 2, none⟩ = some (.slice A0_2 l0_2.length c0_2) := (blk_cell BK164.out 2).trans rfl; have hcz38_3 : w37.cell? ⟨gb164, 3, none⟩ = some (.slice A0_3 l0_3.length c0_3) := (blk_cell BK164.out 3).trans rfl; have hcz38_4 : w37.cell? ⟨gb164, 4, none⟩ = some (.slice A0_4 l0_4.length c0_4) := (blk_cell BK164.out 4).trans rfl; have hfz38_0 := blk_frozen BK164.out 0; have hfz38_1 := blk_frozen BK164.out 1; have hfz38_2 := blk_frozen BK164.out 2; have hfz38_3 := blk_frozen BK164.out 3; have hfz38_4 := blk_frozen BK164.out 4) | ((with_reducible refine gate_callee (f := 40) rfl ?_); refine goesL_ (some 20) rfl rfl Try.func40 (by kernel_rfl) rfl #[.slice A0_2 l0_2.length c0_2, .int .i64 t166] rfl (by (try simp only [List.map_toArray, List.map_cons, List.map_nil]); first | done | rfl | (simp only [List.length_drop, List.length_take]; rfl)) ?_; (with_reducible refine (laws_heldIntS.calls k _ _ l0_2 t166 t167 _ ?side1 ?side2 A15.out).mono ?_); (case side1 => repeat (first | exact (Kd.C_below HR0_2.out HB.out) | (with_reducible refine Kd.C_alloc ?_ _) | (with_reducible refine Kd.C_drewN ?_ _) | (with_reducible refine Kd.C_drew ?_))); (case side2 => exact HC0_2.out); rintro e w' ⟨rfl, ⟨nd, rfl⟩⟩; refine ⟨_, rfl, ?_⟩) | ((with_reducible refine gate_callee (f := 40) rfl ?_); refine goesL_ (some 26) rfl rfl Try.func40 (by kernel_rfl) rfl #[.slice A0_3 l0_3.length c0_3, .int .i64 t167] rfl (by (try simp only [List.map_toArray, List.map_cons, List.map_nil]); first | done | rfl | (simp only [List.length_drop, List.length_take]; rfl)) ?_; (with_reducible refine (laws_heldIntS.calls k _ _ l0_3 t167 t168 _ ?side1 ?side2 A23.out).mono ?_); (case side1 => repeat (first | exact (Kd.C_below HR0_3.out (by repeat (first | (with_reducible first | exact HB.out | apply below_alloc | apply pw_below_drewN | apply below_drew1 | refine below_set ?_ GE164.out) | exact HB.out))) | (with_reducible refine Kd.C_alloc ?_ _) | (with_reducible refine Kd.C_drewN ?_ _) | (with_reducible refine Kd.C_drew ?_))); (case side2 => exact HC0_3.out); rintro e w' ⟨rfl, ⟨nd, rfl⟩⟩; refine ⟨_, rfl, ?_⟩) | ((with_reducible refine gate_callee (f := 40) rfl ?_); refine goesL_ (some 32) rfl rfl Try.func40 (by kernel_rfl) rfl #[.slice A0_4 l0_4.length c0_4, .int .i64 t168] rfl (by (try simp only [List.map_toArray, List.map_cons, List.map_nil]); first | done | rfl | (simp only [List.length_drop, List.length_take]; rfl)) ?_; (with_reducible refine (laws_heldIntS.calls k _ _ l0_4 t168 t169 _ ?side1 ?side2 A31.out).mono ?_); (case side1 => repeat (first | exact (Kd.C_below HR0_4.out (by repeat (first | (with_reducible first | exact HB.out | apply below_alloc | apply pw_below_drewN | apply below_drew1 | refine below_set ?_ GE164.out) | exact HB.out))) | (with_reducible refine Kd.C_alloc ?_ _) | (with_reducible refine Kd.C_drewN ?_ _) | (with_reducible refine Kd.C_drew ?_))); (case side2 => exact HC0_4.out); rintro e w' ⟨rfl, ⟨nd, rfl⟩⟩; refine ⟨_, rfl, ?_⟩))
            go_ret
            exact ⟨by first | rfl | (simp [errW_none, errW_some] <;> rfl) | (simp [*, errW_none, errW_some] <;> rfl), by repeat (first | (with_reducible first | exact HB.out | apply below_alloc | apply pw_below_drewN | apply below_drew1 | refine below_set ?_ GE164.out) | exact HB.out)⟩
          · rw [if_neg c32] at H
            have c32b0 : decide (t169 < 0) = false := decide_eq_false c32
            clear c32
            obtain rfl := Option.some.inj H
            go_enter Try.func16, Try.ntmps16
            go_wp2_with (first | ((with_reducible refine gate_dst (N := 2) rfl ?_); refine box_event ?hg (N := 2) ?hd (cs := #[.slice A0_0 l0_0.length c0_0, .slice A0_1 l0_1.length c0_1, .slice A0_2 l0_2.length c0_2, .slice A0_3 l0_3.length c0_3, .slice A0_4 l0_4.length c0_4]) (t := 25) ?hr ?_; (case hd => rfl); (case hg => rfl); (case hr => first | (go_simp; done) | (go_simp; rfl)); intro gb164 hg w39 hbox hb; have n0_ := Aside0.mk (below_step (by repeat (first | (with_reducible first | exact HB.out | apply below_alloc | apply pw_below_drewN | apply below_drew1) | exact HB.out)) hb); have n1_ := Aside0.mk (hbox); have n2_ := Aside0.mk ((by rw [hg]; exact (below_size (by repeat (first | (with_reducible first | exact HB.out | apply below_alloc | apply pw_below_drewN | apply below_drew1) | exact HB.out))) : w.heap.size ≤ gb164)); have n3_ := Aside0.mk ((by rw [hg]; exact (below_size (by repeat (first | (with_reducible first | exact HB.out | apply below_alloc | apply pw_below_drewN | apply below_drew1) | exact HB.out))) : w.heap.size ≤ gb164)); clear HB; have HB := n0_; have BK164 := n1_; have GW164 := n2_; have GE164 := n3_; clear n0_ n1_ n2_ n3_; clear hb hbox hg; have hcz40_0 : w39.cell? ⟨gb164, 0, none⟩ = some (.slice A0_0 l0_0.length c0_0) := (blk_cell BK164.out 0).trans rfl; have hcz40_1 : w39.cell? ⟨gb164, 1, none⟩ = some (.slice A0_1 l0_1.length c0_1) := (blk_cell BK164.out 1).trans rfl; have hcz40_2 : w39.cell? ⟨gb164, 2, none⟩ = some (.slice A0_2 l0_2.length c0_2) := (blk_cell BK164.out 2).trans rfl; have hcz40_3 : w39.cell? ⟨gb164, 3, none⟩ = some (.slice A0_3 l0_3.length c0_3) := (blk_cell BK164.out 3).trans rfl; have hcz40_4 : w39.cell? ⟨gb164, 4, none⟩ = some (.slice A0_4 l0_4.length c0_4) := (blk_cell BK164.out 4).trans rfl; have hfz40_0 := blk_frozen BK164.out 0; have hfz40_1 := blk_frozen BK164.out 1; have hfz40_2 := blk_frozen BK164.out 2; have hfz40_3 := blk_frozen BK164.out 3; have hfz40_4 := blk_frozen BK164.out 4) | ((with_reducible refine gate_callee (f := 47) rfl ?_); refine goesL_ (some 8) rfl rfl Try.func47 (by kernel_rfl) rfl #[.slice A0_0 l0_0.length c0_0, .int .i64 a1] rfl (by (try simp only [List.map_toArray, List.map_cons, List.map_nil]); first | done | rfl | (simp only [List.length_drop, List.length_take]; rfl)) ?_; (with_reducible refine (laws_heldStringS.calls k _ _ l0_0 a1 t165 _ ?side1 ?side2 A3.out).mono ?_); (case side1 => repeat (first | exact (Kd.C_below HR0_0.out HB.out) | (with_reducible refine Kd.C_alloc ?_ _) | (with_reducible refine Kd.C_drewN ?_ _) | (with_reducible refine Kd.C_drew ?_))); (case side2 => exact HC0_0.out); rintro e w41 ⟨rfl, hb⟩; refine ⟨_, rfl, ?_⟩; have n0_ := Aside0.mk (blk_below (g := gb164) (o := .cells #[.slice A0_0 l0_0.length c0_0, .slice A0_1 l0_1.length c0_1, .slice A0_2 l0_2.length c0_2, .slice A0_3 l0_3.length c0_3, .slice A0_4 l0_4.length c0_4] 25 (0, 0)) (by (with_reducible repeat (first | refine blk_drewN ?_ _ | refine blk_drew ?_ | refine blk_alloc ?_ _)); exact BK164.out) hb); have n1_ := Aside0.mk (below_step (by repeat (first | (with_reducible first | exact HB.out | apply below_alloc | apply pw_below_drewN | apply below_drew1 | refine below_set ?_ GE164.out) | exact HB.out)) hb); clear BK164; clear HB; have BK164 := n0_; have HB := n1_; clear n0_ n1_; (try clear hb); (try clear hb2); (try clear hk); (try clear hi); have hcz42_0 : w41.cell? ⟨gb164, 0, none⟩ = some (.slice A0_0 l0_0.length c0_0) := (blk_cell BK164.out 0).trans rfl; have hcz42_1 : w41.cell? ⟨gb164, 1, none⟩ = some (.slice A0_1 l0_1.length c0_1) := (blk_cell BK164.out 1).trans rfl; have hcz42_2 : w41.cell? ⟨gb164, 2, none⟩ = some (.slice A0_2 l0_2.length c0_2) := (blk_cell BK164.out 2).trans rfl; have hcz42_3 : w41.cell? ⟨gb164, 3, none⟩ = some (.slice A0_3 l0_3.length c0_3) := (blk_cell BK164.out 3).trans rfl; have hcz42_4 : w41.cell? ⟨gb164, 4, none⟩ = some (.slice A0_4 l0_4.length c0_4) := (blk_cell BK164.out 4).trans rfl; have hfz42_0 := blk_frozen BK164.out 0; have hfz42_1 := blk_frozen BK164.out 1; have hfz42_2 := blk_frozen BK164.out 2; have hfz42_3 := blk_frozen BK164.out 3; have hfz42_4 := blk_frozen BK164.out 4) | ((with_reducible refine gate_callee (f := 47) rfl ?_); refine goesL_ (some 14) rfl rfl Try.func47 (by kernel_rfl) rfl #[.slice A0_1 l0_1.length c0_1, .int .i64 t165] rfl (by (try simp only [List.map_toArray, List.map_cons, List.map_nil]); first | done | rfl | (simp only [List.length_drop, List.length_take]; rfl)) ?_; (with_reducible refine (laws_heldStringS.calls k _ _ l0_1 t165 t166 _ ?side1 ?side2 A8.out).mono ?_); (case side1 => repeat (first | exact (Kd.C_below HR0_1.out HB.out) | (with_reducible refine Kd.C_alloc ?_ _) | (with_reducible refine Kd.C_drewN ?_ _) | (with_reducible refine Kd.C_drew ?_))); (case side2 => exact HC0_1.out); rintro e w43 ⟨rfl, hb⟩; refine ⟨_, rfl, ?_⟩; have n0_ := Aside0.mk (blk_below (g := gb164) (o := .cells #[.slice A0_0 l0_0.length c0_0, .slice A0_1 l0_1.length c0_1, .slice A0_2 l0_2.length c0_2, .slice A0_3 l0_3.length c0_3, .slice A0_4 l0_4.length c0_4] 25 (0, 0)) (by (with_reducible repeat (first | refine blk_drewN ?_ _ | refine blk_drew ?_ | refine blk_alloc ?_ _)); exact BK164.out) hb); have n1_ := Aside0.mk (below_step (by repeat (first | (with_reducible first | exact HB.out | apply below_alloc | apply pw_below_drewN | apply below_drew1 | refine below_set ?_ GE164.out) | exact HB.out)) hb); clear BK164; clear HB; have BK164 := n0_; have HB := n1_; clear n0_ n1_; (try clear hb); (try clear hb2); (try clear hk); (try clear hi); have hcz44_0 : w43.cell? ⟨gb164, 0, none⟩ = some (.slice A0_0 l0_0.length c0_0) := (blk_cell BK164.out 0).trans rfl; have hcz44_1 : w43.cell? ⟨gb164, 1, none⟩ = some (.slice A0_1 l0_1.length c0_1) := (blk_cell BK164.out 1).trans rfl; have hcz44_2 : w43.cell? ⟨gb164, 2, none⟩ = some (.slice A0_2 l0_2.length c0_2) := (blk_cell BK164.out 2).trans rfl; have hcz44_3 : w43.cell? ⟨gb164, 3, none⟩ = some (.slice A0_3 l0_3.length c0_3) := (blk_cell BK164.out 3).trans rfl; have hcz44_4 : w43.cell? ⟨gb164, 4, none⟩ = some (.slice A0_4 l0_4.length c0_4) := (blk_cell BK164.out 4).trans rfl; have hfz44_0 := blk_frozen BK164.out 0; have hfz44_1 := blk_frozen BK164.out 1; have hfz44_2 := blk_frozen BK164.out 2; have hfz44_3 := blk_frozen BK164.out 3; have hfz44_4 := blk_frozen BK164.out 4) | ((with_reducible refine gate_callee (f := 40) rfl ?_); refine goesL_ (some 20) rfl rfl Try.func40 (by kernel_rfl) rfl #[.slice A0_2 l0_2.length c0_2, .int .i64 t166] rfl (by (try simp only [List.map_toArray, List.map_cons, List.map_nil]); first | done | rfl | (simp only [List.length_drop, List.length_take]; rfl)) ?_; (with_reducible refine (laws_heldIntS.calls k _ _ l0_2 t166 t167 _ ?side1 ?side2 A15.out).mono ?_); (case side1 => repeat (first | exact (Kd.C_below HR0_2.out HB.out) | (with_reducible refine Kd.C_alloc ?_ _) | (with_reducible refine Kd.C_drewN ?_ _) | (with_reducible refine Kd.C_drew ?_))); (case side2 => exact HC0_2.out); rintro e w' ⟨rfl, ⟨nd, rfl⟩⟩; refine ⟨_, rfl, ?_⟩) | ((with_reducible refine gate_callee (f := 40) rfl ?_); refine goesL_ (some 26) rfl rfl Try.func40 (by kernel_rfl) rfl #[.slice A0_3 l0_3.length c0_3, .int .i64 t167] rfl (by (try simp only [List.map_toArray, List.map_cons, List.map_nil]); first | done | rfl | (simp only [List.length_drop, List.length_take]; rfl)) ?_; (with_reducible refine (laws_heldIntS.calls k _ _ l0_3 t167 t168 _ ?side1 ?side2 A23.out).mono ?_); (case side1 => repeat (first | exact (Kd.C_below HR0_3.out (by repeat (first | (with_reducible first | exact HB.out | apply below_alloc | apply pw_below_drewN | apply below_drew1 | refine below_set ?_ GE164.out) | exact HB.out))) | (with_reducible refine Kd.C_alloc ?_ _) | (with_reducible refine Kd.C_drewN ?_ _) | (with_reducible refine Kd.C_drew ?_))); (case side2 => exact HC0_3.out); rintro e w' ⟨rfl, ⟨nd, rfl⟩⟩; refine ⟨_, rfl, ?_⟩) | ((with_reducible refine gate_callee (f := 40) rfl ?_); refine goesL_ (some 32) rfl rfl Try.func40 (by kernel_rfl) rfl #[.slice A0_4 l0_4.length c0_4, .int .i64 t168] rfl (by (try simp only [List.map_toArray, List.map_cons, List.map_nil]); first | done | rfl | (simp only [List.length_drop, List.length_take]; rfl)) ?_; (with_reducible refine (laws_heldIntS.calls k _ _ l0_4 t168 t169 _ ?side1 ?side2 A31.out).mono ?_); (case side1 => repeat (first | exact (Kd.C_below HR0_4.out (by repeat (first | (with_reducible first | exact HB.out | apply below_alloc | apply pw_below_drewN | apply below_drew1 | refine below_set ?_ GE164.out) | exact HB.out))) | (with_reducible refine Kd.C_alloc ?_ _) | (with_reducible refine Kd.C_drewN ?_ _) | (with_reducible refine Kd.C_drew ?_))); (case side2 => exact HC0_4.out); rintro e w' ⟨rfl, ⟨nd, rfl⟩⟩; refine ⟨_, rfl, ?_⟩))
            go_ret
            exact ⟨by first | rfl | (simp [errW_none, errW_some] <;> rfl) | (simp [*, errW_none, errW_some] <;> rfl), by repeat (first | (with_reducible first | exact HB.out | apply below_alloc | apply pw_below_drewN | apply below_drew1 | refine below_set ?_ GE164.out) | exact HB.out)⟩
end Go.Proofs.Ytolmblfffnnabaa.P
namespace Go.Proofs.Ytolmblfffnnabaa.P
open Go.RowKit Go.Proofs.YtolmblfffnnabaaW.PrintWords
def stCount (s : St) : Nat := s.now.length + s.sure.length + s.last.length + s.slast.length + s.floors.length
noncomputable def stMark (s : St) (m : Int) : St := ⟨mStrs m s.now.length, mStrs (m + s.now.length) s.sure.length, mInts (m + s.now.length + s.sure.length) s.last.length, mInts (m + s.now.length + s.sure.length + s.last.length) s.slast.length, mInts (m + s.now.length + s.sure.length + s.last.length + s.slast.length) s.floors.length⟩
theorem own_ne {v u : Value} {k : Nat} (_hu : u.ownBlock = some k) (h : some k ≠ v.ownBlock) : ¬ v.ownBlock = some k := fun e => h e.symm
theorem markStore_c {w0 w : World} {v : Value} {s : St} {lo hi : Nat} {m : Int} (hB : Below w0.heap.size w0 w) (hv : StR w lo hi v s) (hlo : w0.heap.size ≤ lo) (hs : Small s) (h0 : 0 ≤ m) (hm : m ≤ 1000000000000) :
    Calls Try.prog 15 #[v, .int .i64 m] w fun e w' => e = .returned (.int .i64 (m + stCount s)) ∧ StR w' lo hi v (stMark s m) ∧ Below w0.heap.size w0 w' ∧ Kept w w' (fun k => lo ≤ k ∧ k < hi) := by
  obtain ⟨v0, v1, v2, v3, v4, rfl, r0, r1, r2, r3, r4⟩ := hv
  have he : Ev (fun k => laws_markStore.f k s.now s.sure s.last s.slast s.floors m) (m + stCount s, (stMark s m).now, (stMark s m).sure, (stMark s m).last, (stMark s m).slast, (stMark s m).floors) := by
    obtain ⟨g0, g1, g2, g3, g4⟩ := hs
    have ec : m + (stCount s : Int) = m + s.now.length + s.sure.length + s.last.length + s.slast.length + s.floors.length := by unfold stCount; omega
    rw [ec]
    unfold laws_markStore.f stMark
    refine Ev.bind (laws_markStringS_ev h0 (by omega)) ?_
    refine Ev.bind (laws_markStringS_ev (by omega) (by omega)) ?_
    refine Ev.bind (laws_markIntS_ev (by omega) (by omega)) ?_
    refine Ev.bind (laws_markIntS_ev (by omega) (by omega)) ?_
    refine Ev.bind (laws_markIntS_ev (by omega) (by omega)) ?_
    exact Ev.now _
  obtain ⟨k, hk⟩ := he.rounds
  have b0 := fun k hk => (Kd.R_base r0 k hk : lo ≤ k)
  have b1 := fun k hk => (Kd.R_base r1 k hk : lo ≤ k)
  have b2 := fun k hk => (Kd.R_base r2 k hk : lo ≤ k)
  have b3 := fun k hk => (Kd.R_base r3 k hk : lo ≤ k)
  have b4 := fun k hk => (Kd.R_base r4 k hk : lo ≤ k)
  have o0 := r0.1
  have o1 := r1.1
  have o2 := r2.1
  have o3 := r3.1
  have o4 := r4.1
  refine (laws_markStore.calls k (fun k => v0.ownBlock = some k) v0 s.now (fun k => v1.ownBlock = some k) v1 s.sure (fun k => v2.ownBlock = some k) v2 s.last (fun k => v3.ownBlock = some k) v3 s.slast (fun k => v4.ownBlock = some k) v4 s.floors m _ _ _ _ _ _ w0 w hB
    (R_raise r0 fun k hk => ⟨by have := b0 k hk; omega, hk⟩) (fun k hk => own_ne hk (o0 k hk).2)
    (R_raise r1 fun k hk => ⟨by have := b1 k hk; omega, hk⟩) (fun k hk => own_ne hk (o1 k hk).2)
    (R_raise r2 fun k hk => ⟨by have := b2 k hk; omega, hk⟩) (fun k hk => own_ne hk (o2 k hk).2.1) (fun k hk => own_ne hk (o2 k hk).2.2)
    (R_raise r3 fun k hk => ⟨by have := b3 k hk; omega, hk⟩) (fun k hk => own_ne hk (o3 k hk).2.1) (fun k hk => own_ne hk (o3 k hk).2.2)
    (R_raise r4 fun k hk => ⟨by have := b4 k hk; omega, hk⟩) (fun k hk => own_ne hk (o4 k hk).2.1) (fun k hk => own_ne hk (o4 k hk).2.2) hk).mono ?_
  rintro e w' ⟨he, q0, q1, q2, q3, q4, hb, hkp⟩
  refine ⟨he, ⟨v0, v1, v2, v3, v4, rfl, R_raise q0 fun k hk => ⟨b0 k hk, o0 k hk⟩, R_raise q1 fun k hk => ⟨b1 k hk, o1 k hk⟩, R_raise q2 fun k hk => ⟨b2 k hk, o2 k hk⟩, R_raise q3 fun k hk => ⟨b3 k hk, o3 k hk⟩, R_raise q4 fun k hk => ⟨b4 k hk, o4 k hk⟩⟩, hb, hkp.mono ?_⟩
  rintro k (h | h | h | h | h)
  · exact ⟨b0 k h, (o0 k h).1⟩
  · exact ⟨b1 k h, (o1 k h).1⟩
  · exact ⟨b2 k h, (o2 k h).1⟩
  · exact ⟨b3 k h, (o3 k h).1⟩
  · exact ⟨b4 k h, (o4 k h).1⟩
theorem heldStore_c {w : World} {v : Value} {s : St} {m : Int} (hv : StC w v (stMark s m)) (hs : Small s) (h0 : 0 ≤ m) (hm : m ≤ 1000000000000) :
    Calls Try.prog 16 #[v, .int .i64 m] w fun e w' => e = .returned (.int .i64 (m + stCount s)) ∧ Below w.heap.size w w' := by
  have he : Ev (fun k => laws_heldStore.f k (stMark s m).now (stMark s m).sure (stMark s m).last (stMark s m).slast (stMark s m).floors m) (m + stCount s) := by
    obtain ⟨g0, g1, g2, g3, g4⟩ := hs
    have ec : m + (stCount s : Int) = m + s.now.length + s.sure.length + s.last.length + s.slast.length + s.floors.length := by unfold stCount; omega
    rw [ec]
    unfold laws_heldStore.f stMark
    refine Ev.bind (laws_heldStringS_ev h0 (by omega)) (Ev.congr (fun k => by rw [if_neg (by omega)]) ?_)
    refine Ev.bind (laws_heldStringS_ev (by omega) (by omega)) (Ev.congr (fun k => by rw [if_neg (by omega)]) ?_)
    refine Ev.bind (laws_heldIntS_ev (by omega) (by omega)) (Ev.congr (fun k => by rw [if_neg (by omega)]) ?_)
    refine Ev.bind (laws_heldIntS_ev (by omega) (by omega)) (Ev.congr (fun k => by rw [if_neg (by omega)]) ?_)
    refine Ev.bind (laws_heldIntS_ev (by omega) (by omega)) (Ev.congr (fun k => by rw [if_neg (by omega)]) ?_)
    exact Ev.now _
  obtain ⟨k, hk⟩ := he.rounds
  obtain ⟨A0, c0, A1, c1, A2, c2, A3, c3, A4, c4, rfl, g0, g1, g2, g3, g4⟩ := hv
  exact laws_heldStore.calls k A0 c0 _ A1 c1 _ A2 c2 _ A3 c3 _ A4 c4 _ m _ w g0.1 g0.2 g1.1 g1.2 g2.1 g2.2 g3.1 g3.2 g4.1 g4.2 hk
theorem markStore_q {w0 w : World} {v : Value} {s : St} {lo hi : Nat} {r : Int} (hB : Below w0.heap.size w0 w) (hv : StR w lo hi v s) (hlo : w0.heap.size ≤ lo) (hs : Small s) (hr : 1 + (stCount s : Int) = r) :
    Calls Try.prog 15 #[v, .int .i64 1] w fun e w' => e = .returned (.int .i64 r) ∧ StR w' lo hi v (stMark s 1) ∧ Below w0.heap.size w0 w' ∧ Kept w w' (fun k => lo ≤ k ∧ k < hi) := by
  subst hr
  exact markStore_c hB hv hlo hs (by omega) (by omega)
theorem heldStore_q {w : World} {v : Value} {s : St} {r : Int} (hv : StC w v (stMark s 1)) (hs : Small s) (hr : 1 + (stCount s : Int) = r) :
    Calls Try.prog 16 #[v, .int .i64 1] w fun e w' => e = .returned (.int .i64 r) ∧ Below w.heap.size w w' := by
  subst hr
  exact heldStore_c hv hs (by omega) (by omega)
end Go.Proofs.Ytolmblfffnnabaa.P
namespace Go.Proofs.Ytolmblfffnnabaa.P
open Go.RowKit Go.Proofs.YtolmblfffnnabaaW.PrintWords Go.Proofs.YtolmblfffnnabaaW.PrintLast Go.Proofs.YtolmblfffnnabaaW.PrintMore
set_option linter.unusedVariables false
set_option linter.unusedSimpArgs false
noncomputable def FnExactStoreDo_r8.T : Bool × List (List Nat × List Nat) := rtab .any (opsOf Try.f11 8)
def FnExactStoreDo_r8.B : List Nat := [0, 1, 0, 7, 15, 31, 63, 63, 0, 383, 1023]
theorem FnExactStoreDo_r8.tab : rtab .any (opsOf Try.f11 8) = FnExactStoreDo_r8.T := rfl
theorem FnExactStoreDo_r8.bits : waitsOk FnExactStoreDo_r8.T.2 FnExactStoreDo_r8.B = true := by kernel_rfl
noncomputable def FnExactStoreDo_r10.T : Bool × List (List Nat × List Nat) := rtab .any (opsOf Try.f11 10)
def FnExactStoreDo_r10.B : List Nat := [0, 0, 2, 7, 15, 31, 31, 0, 191, 511]
theorem FnExactStoreDo_r10.tab : rtab .any (opsOf Try.f11 10) = FnExactStoreDo_r10.T := rfl
theorem FnExactStoreDo_r10.bits : waitsOk FnExactStoreDo_r10.T.2 FnExactStoreDo_r10.B = true := by kernel_rfl
noncomputable def FnExactStoreDo_r27.T : Bool × List (List Nat × List Nat) := rtab .any (opsOf Try.f11 27)
def FnExactStoreDo_r27.B : List Nat := [0, 1, 0, 7, 15, 31, 63, 63, 0, 383, 1023]
theorem FnExactStoreDo_r27.tab : rtab .any (opsOf Try.f11 27) = FnExactStoreDo_r27.T := rfl
theorem FnExactStoreDo_r27.bits : waitsOk FnExactStoreDo_r27.T.2 FnExactStoreDo_r27.B = true := by kernel_rfl
set_option maxHeartbeats 8000000 in
set_option maxRecDepth 100000 in
theorem FnExactStoreDo_walk {w : World} {v0 : Value} {s0 : St} (hv0 : StC w v0 s0) (hz0 : Sized s0) (who ep num obj at_ : Int) (data : ByteArray) (hd : data.size ≤ 9223372036854775807) :
    Calls Try.prog 11 #[v0, .agg #[.int .i64 who, .int .i64 ep, .int .i64 num, .int .i64 obj, .int .i64 at_, .string data]] w fun e w' => e = .returned (.bool true) ∧ Below w.heap.size w w' := by
  have HV0 := Aside0.mk hv0
  have HZ0 := Aside0.mk hz0
  obtain ⟨A0_0, c0_0, A0_1, c0_1, A0_2, c0_2, A0_3, c0_3, A0_4, c0_4, rfl, _⟩ := hv0
  clear hz0
  have HD := Aside0.mk hd
  clear hd
  obtain ⟨⟨t, c⟩, ht⟩ : ∃ t_, storeDo s0 ⟨who, ep, num, obj, at_, data⟩ = t_ := ⟨_, rfl⟩
  have HT := Aside0.mk ht
  clear ht
  have hu25 := Try.underlying25
  have hu30 := Try.underlying30
  have hu59 := Try.underlying59
  go_enter Try.func11, Try.ntmps11
  go_wp2_with (first | ((with_reducible refine gate_dst (N := 2) rfl ?_); refine ev_box ?hg (N := 2) ?hd (cs := #[.slice A0_0 s0.now.length c0_0, .slice A0_1 s0.sure.length c0_1, .slice A0_2 s0.last.length c0_2, .slice A0_3 s0.slast.length c0_3, .slice A0_4 s0.floors.length c0_4]) (t := 30) ?hr ?_; (case hd => rfl); (case hg => rfl); (case hr => first | (go_simp; done) | (go_simp; rfl)); intro g2 W1 HG4 BK2 HB3) | ((with_reducible refine gate_dst (N := 3) rfl ?_); refine ev_box ?hg (N := 3) ?hd (cs := #[.int .i64 who, .int .i64 ep, .int .i64 num, .int .i64 obj, .int .i64 at_, .string data]) (t := 59) ?hr ?_; (case hd => rfl); (case hg => rfl); (case hr => first | (go_simp; done) | (go_simp; rfl)); intro g3 W5 HG8 BK6 HB7) | ((with_reducible refine gate_dst (N := 16) rfl ?_); refine ev_load rfl (N := 16) rfl rfl (g := g2) rfl (cs := #[.slice A0_0 s0.now.length c0_0, .slice A0_1 s0.sure.length c0_1, .slice A0_2 s0.last.length c0_2, .slice A0_3 s0.slast.length c0_3, .slice A0_4 s0.floors.length c0_4]) (Bk.below BK2.out HB7.out) hu30 rfl (by kernel_rfl) ?_))
  refine (szStore_c (StC.below HV0.out (below_step HB3.out HB7.out)) HZ0.out (by omega) (by omega)).mono ?_
  rintro e W12 ⟨r9, rfl, _, _, hr10, hb13⟩
  have HB14 := Aside0.mk hb13
  clear hb13
  by_cases hcr9 : r9 < 0
  · have hdr9 : decide (r9 < 0) = true := decide_eq_true hcr9
    go_wp2
    go_ret
    exact ⟨rfl, (below_step (below_step HB3.out HB7.out) HB14.out)⟩
  have hdr9 : decide (r9 < 0) = false := decide_eq_false hcr9
  have HS11 := Aside0.mk (hr10 (by omega))
  clear hr10
  go_wp2_with (first | ((with_reducible refine gate_dst (N := 21) rfl ?_); refine ev_load rfl (N := 21) rfl rfl (g := g3) rfl (cs := #[.int .i64 who, .int .i64 ep, .int .i64 num, .int .i64 obj, .int .i64 at_, .string data]) (Bk.below BK6.out HB14.out) hu59 rfl (by kernel_rfl) ?_))
  refine (szReq_c who ep num obj at_ HD.out (by omega) (by omega)).mono ?_
  rintro e W16 ⟨r15, rfl, _, _, hb17⟩
  have HB18 := Aside0.mk hb17
  clear hb17
  by_cases hcr15 : r15 < 0
  · have hdr15 : decide (r15 < 0) = true := decide_eq_true hcr15
    go_wp2
    go_ret
    exact ⟨rfl, (below_step (below_step (below_step HB3.out HB7.out) HB14.out) HB18.out)⟩
  have hdr15 : decide (r15 < 0) = false := decide_eq_false hcr15
  go_wp2_with (fail)
  refine start_ (n := 11) (S := fun w' => True) (ds := []) #[false, false, false, false, false, false, false, false, false, false, false] (by kernel_rfl) rfl rfl trivial (fun hHeld => ?_)
  clear hHeld
  refine with_tabW FnExactStoreDo_r8.tab FnExactStoreDo_r8.bits (fun HT_ HW_ => ?_)
  refine world_at (w := W16) (below_drew0 _) (fun W19 HB20 => ?_)
  refine inv_at [0, 1, 2, 3, 4, 5, 6, 7, 8, 9, 10] (fun a0_ b a w' => ∃ (v_1 : Value) (v_4 : Value) (l_1 : Nat) (h_1 : Nat) (l_4 : Nat) (h_4 : Nat) (gr8_8 : Nat) (m_5 : Value) (m_6 : Value), a = putSel a0_ b [(0, 27, .agg #[.slice A0_0 s0.now.length c0_0, .slice A0_1 s0.sure.length c0_1, .slice A0_2 s0.last.length c0_2, .slice A0_3 s0.slast.length c0_3, .slice A0_4 s0.floors.length c0_4]), (1, 28, v_1), (2, 29, .agg #[.int .i64 who, .int .i64 ep, .int .i64 num, .int .i64 obj, .int .i64 at_, .string data]), (3, 30, .agg #[.int .i64 who, .int .i64 ep, .int .i64 num, .int .i64 obj, .int .i64 at_, .string data]), (4, 31, .tuple #[v_4, .int .i64 c]), (5, 26, m_5), (6, 32, m_6), (7, 33, .int .i64 c), (8, 6, .pointer (some ⟨gr8_8, 0, none⟩)), (10, 7, .int .i64 c)] ∧ Below W19.heap.size W19 w' ∧ (b 1 = true → StR w' l_1 h_1 v_1 (s0) ∧ W19.heap.size ≤ l_1 ∧ h_1 ≤ w'.heap.size) ∧ (b 4 = true → StR w' l_4 h_4 v_4 (t) ∧ W19.heap.size ≤ l_4 ∧ h_4 ≤ w'.heap.size) ∧ (b 8 = true → W19.heap.size ≤ gr8_8 ∧ gr8_8 < w'.heap.size ∧ (b 9 = false → Bk w' gr8_8 #[.slice none 0 0, .slice none 0 0, .slice none 0 0, .slice none 0 0, .slice none 0 0] 25)) ∧ (b 9 = true → ∃ cs_, v_4 = .agg cs_ ∧ Bk w' gr8_8 cs_ 25) ∧ (b 1 = true → b 8 = true → gr8_8 < l_1 ∨ h_1 ≤ gr8_8) ∧ (b 4 = true → b 8 = true → gr8_8 < l_4 ∨ h_4 ≤ gr8_8) ∧ (b 5 = true → m_5 = .tuple #[v_4, .int .i64 c]) ∧ (b 6 = true → m_6 = v_4)) HT_.out HW_.out (by kernel_rfl) (by kernel_rfl) ?_ ?_ ?_
  · exact ⟨.bool false, .bool false, 0, 0, 0, 0, 0, .bool false, .bool false, by simp only [putSel, Bool.false_eq_true, if_false], Below.refl _ _, fun h_ => absurd h_ (by decide), fun h_ => absurd h_ (by decide), fun h_ => absurd h_ (by decide), fun h_ => absurd h_ (by decide), fun h_ => absurd h_ (by decide), fun h_ => absurd h_ (by decide), fun h_ => absurd h_ (by decide), fun h_ => absurd h_ (by decide)⟩
  · refine steps_cons ?_ ?_
    · rintro b a w' ⟨v_1, v_4, l_1, h_1, l_4, h_4, gr8_8, m_5, m_6, ha, HQ, CQ1, CQ4, AQ8, SQ8, PQ1_8, PQ4_8, MQ5, MQ6⟩ hb_ hon hoff
      refine ⟨_, rfl, fun K hK => ?_⟩
      have e2 : a.tmps[2]? = some (.pointer (some ⟨g2, 0, none⟩)) := by rw [ha]; exact (putSel_off rfl).trans rfl
      have HQ_ := Aside0.mk HQ
      refine value_ (w1 := w') (v := .agg #[.slice A0_0 s0.now.length c0_0, .slice A0_1 s0.sure.length c0_1, .slice A0_2 s0.last.length c0_2, .slice A0_3 s0.slast.length c0_3, .slice A0_4 s0.floors.length c0_4]) (by rfl) rfl ?_ ?_
      · exact run_load_ev rfl (eval_of e2) (Bk.below BK2.out (below_step (below_step (below_step (below_step HB7.out HB14.out) HB18.out) HB20.out) HQ_.out)) hu30 rfl (by kernel_rfl)
      refine hK.out _ _ ⟨v_1, v_4, l_1, h_1, l_4, h_4, gr8_8, m_5, m_6, (by rw [ha]; exact putSel_upk 0 hb_ rfl rfl rfl), HQ, CQ1, CQ4, AQ8, SQ8, PQ1_8, PQ4_8, MQ5, MQ6⟩
    refine steps_cons ?_ ?_
    · rintro b a w' ⟨v_1, v_4, l_1, h_1, l_4, h_4, gr8_8, m_5, m_6, ha, HQ, CQ1, CQ4, AQ8, SQ8, PQ1_8, PQ4_8, MQ5, MQ6⟩ hb_ hon hoff
      refine ⟨_, rfl, fun K hK => ?_⟩
      have e27 : a.tmps[27]? = some (.agg #[.slice A0_0 s0.now.length c0_0, .slice A0_1 s0.sure.length c0_1, .slice A0_2 s0.last.length c0_2, .slice A0_3 s0.slast.length c0_3, .slice A0_4 s0.floors.length c0_4]) := by rw [ha]; exact putSel_on (e := (0, 27, .agg #[.slice A0_0 s0.now.length c0_0, .slice A0_1 s0.sure.length c0_1, .slice A0_2 s0.last.length c0_2, .slice A0_3 s0.slast.length c0_3, .slice A0_4 s0.floors.length c0_4])) 0 rfl rfl (hon 0 (by kernel_rfl)) rfl
      have HQ_ := Aside0.mk HQ
      refine goes_ Try.func19 (by kernel_rfl) rfl #[.agg #[.slice A0_0 s0.now.length c0_0, .slice A0_1 s0.sure.length c0_1, .slice A0_2 s0.last.length c0_2, .slice A0_3 s0.slast.length c0_3, .slice A0_4 s0.floors.length c0_4]] (by rfl) rfl rfl (by simp only [List.map_toArray, List.map_cons, List.map_nil, eval_of e27]) ?_
      refine (toStore_c (StC.below HV0.out (below_step (below_step (below_step (below_step (below_step HB3.out HB7.out) HB14.out) HB18.out) HB20.out) HQ_.out)) HS11.out).mono ?_
      rintro e_ w5 ⟨u28, rfl, hr29, hb⟩
      refine ⟨_, rfl, ?_⟩
      refine hK.out _ _ ⟨u28, v_4, w'.heap.size, w5.heap.size, l_4, h_4, gr8_8, m_5, m_6, (by rw [ha]; exact putSel_upk 1 hb_ rfl rfl rfl), below_step HQ hb, fun _ => ⟨hr29, (show W19.heap.size ≤ w'.heap.size from HQ.size), Nat.le_refl _⟩, fun h_ => ⟨StR.below (CQ4 h_).1 hb, (CQ4 h_).2.1, Nat.le_trans (CQ4 h_).2.2 (hb).size⟩, fun h_ => ⟨(AQ8 h_).1, Nat.lt_of_lt_of_le (AQ8 h_).2.1 (hb).size, fun h2_ => Bk.below ((AQ8 h_).2.2 h2_) hb⟩, fun h_ => (SQ8 h_).imp fun cs_ x_ => ⟨x_.1, Bk.below x_.2 hb⟩, fun _ h2_ => Or.inl (AQ8 h2_).2.1, PQ4_8, MQ5, MQ6⟩
    refine steps_cons ?_ ?_
    · rintro b a w' ⟨v_1, v_4, l_1, h_1, l_4, h_4, gr8_8, m_5, m_6, ha, HQ, CQ1, CQ4, AQ8, SQ8, PQ1_8, PQ4_8, MQ5, MQ6⟩ hb_ hon hoff
      refine ⟨_, rfl, fun K hK => ?_⟩
      have e3 : a.tmps[3]? = some (.pointer (some ⟨g3, 0, none⟩)) := by rw [ha]; exact (putSel_off rfl).trans rfl
      have HQ_ := Aside0.mk HQ
      refine value_ (w1 := w') (v := .agg #[.int .i64 who, .int .i64 ep, .int .i64 num, .int .i64 obj, .int .i64 at_, .string data]) (by rfl) rfl ?_ ?_
      · exact run_load_ev rfl (eval_of e3) (Bk.below BK6.out (below_step (below_step (below_step HB14.out HB18.out) HB20.out) HQ_.out)) hu59 rfl (by kernel_rfl)
      refine hK.out _ _ ⟨v_1, v_4, l_1, h_1, l_4, h_4, gr8_8, m_5, m_6, (by rw [ha]; exact putSel_upk 2 hb_ rfl rfl rfl), HQ, CQ1, CQ4, AQ8, SQ8, PQ1_8, PQ4_8, MQ5, MQ6⟩
    refine steps_cons ?_ ?_
    · rintro b a w' ⟨v_1, v_4, l_1, h_1, l_4, h_4, gr8_8, m_5, m_6, ha, HQ, CQ1, CQ4, AQ8, SQ8, PQ1_8, PQ4_8, MQ5, MQ6⟩ hb_ hon hoff
      refine ⟨_, rfl, fun K hK => ?_⟩
      have e29 : a.tmps[29]? = some (.agg #[.int .i64 who, .int .i64 ep, .int .i64 num, .int .i64 obj, .int .i64 at_, .string data]) := by rw [ha]; exact putSel_on (e := (2, 29, .agg #[.int .i64 who, .int .i64 ep, .int .i64 num, .int .i64 obj, .int .i64 at_, .string data])) 2 rfl rfl (hon 2 (by kernel_rfl)) rfl
      have HQ_ := Aside0.mk HQ
      refine goes_ Try.func43 (by kernel_rfl) rfl #[.agg #[.int .i64 who, .int .i64 ep, .int .i64 num, .int .i64 obj, .int .i64 at_, .string data]] (by rfl) rfl rfl (by simp only [List.map_toArray, List.map_cons, List.map_nil, eval_of e29]) ?_
      refine (toReq_c who ep num obj at_ data).mono ?_
      rintro e_ w5 ⟨rfl, hb⟩
      refine ⟨_, rfl, ?_⟩
      refine hK.out _ _ ⟨v_1, v_4, l_1, h_1, l_4, h_4, gr8_8, m_5, m_6, (by rw [ha]; exact putSel_upk 3 hb_ rfl rfl rfl), below_step HQ hb, fun h_ => ⟨StR.below (CQ1 h_).1 hb, (CQ1 h_).2.1, Nat.le_trans (CQ1 h_).2.2 (hb).size⟩, fun h_ => ⟨StR.below (CQ4 h_).1 hb, (CQ4 h_).2.1, Nat.le_trans (CQ4 h_).2.2 (hb).size⟩, fun h_ => ⟨(AQ8 h_).1, Nat.lt_of_lt_of_le (AQ8 h_).2.1 (hb).size, fun h2_ => Bk.below ((AQ8 h_).2.2 h2_) hb⟩, fun h_ => (SQ8 h_).imp fun cs_ x_ => ⟨x_.1, Bk.below x_.2 hb⟩, PQ1_8, PQ4_8, MQ5, MQ6⟩
    refine steps_cons ?_ ?_
    · rintro b a w' ⟨v_1, v_4, l_1, h_1, l_4, h_4, gr8_8, m_5, m_6, ha, HQ, CQ1, CQ4, AQ8, SQ8, PQ1_8, PQ4_8, MQ5, MQ6⟩ hb_ hon hoff
      refine ⟨_, rfl, fun K hK => ?_⟩
      have e28 : a.tmps[28]? = some (v_1) := by rw [ha]; exact putSel_on (e := (1, 28, v_1)) 1 rfl rfl (hon 1 (by kernel_rfl)) rfl
      have e30 : a.tmps[30]? = some (.agg #[.int .i64 who, .int .i64 ep, .int .i64 num, .int .i64 obj, .int .i64 at_, .string data]) := by rw [ha]; exact putSel_on (e := (3, 30, .agg #[.int .i64 who, .int .i64 ep, .int .i64 num, .int .i64 obj, .int .i64 at_, .string data])) 3 rfl rfl (hon 3 (by kernel_rfl)) rfl
      have HQ_ := Aside0.mk HQ
      have FQ1 := Aside0.mk (CQ1 (hon 1 (by kernel_rfl))).1
      refine goes_ Try.func42 (by kernel_rfl) rfl #[v_1, .agg #[.int .i64 who, .int .i64 ep, .int .i64 num, .int .i64 obj, .int .i64 at_, .string data]] (by rfl) rfl rfl (by simp only [List.map_toArray, List.map_cons, List.map_nil, eval_of e28, eval_of e30]) ?_
      refine (spec_StoreDo_c (StR.toC FQ1.out) HZ0.out HS11.out HD.out HT.out).mono ?_
      rintro e_ w5 ⟨u31, rfl, hr32, hb⟩
      refine ⟨_, rfl, ?_⟩
      refine hK.out _ _ ⟨v_1, u31, l_1, h_1, w'.heap.size, w5.heap.size, gr8_8, m_5, m_6, (by rw [ha]; exact putSel_upk 4 hb_ rfl rfl rfl), below_step HQ hb, fun h_ => ⟨StR.below (CQ1 h_).1 hb, (CQ1 h_).2.1, Nat.le_trans (CQ1 h_).2.2 (hb).size⟩, fun _ => ⟨hr32, (show W19.heap.size ≤ w'.heap.size from HQ.size), Nat.le_refl _⟩, fun h_ => ⟨(AQ8 h_).1, Nat.lt_of_lt_of_le (AQ8 h_).2.1 (hb).size, fun h2_ => Bk.below ((AQ8 h_).2.2 h2_) hb⟩, fun h_ => absurd ((show b 9 = true from h_).symm.trans (hoff 9 (by kernel_rfl))) (by decide), PQ1_8, fun _ h2_ => Or.inl (AQ8 h2_).2.1, fun h_ => absurd ((show b 5 = true from h_).symm.trans (hoff 5 (by kernel_rfl))) (by decide), fun h_ => absurd ((show b 6 = true from h_).symm.trans (hoff 6 (by kernel_rfl))) (by decide)⟩
    refine steps_cons ?_ ?_
    · rintro b a w' ⟨v_1, v_4, l_1, h_1, l_4, h_4, gr8_8, m_5, m_6, ha, HQ, CQ1, CQ4, AQ8, SQ8, PQ1_8, PQ4_8, MQ5, MQ6⟩ hb_ hon hoff
      refine ⟨_, rfl, fun K hK => ?_⟩
      have e31 : a.tmps[31]? = some (.tuple #[v_4, .int .i64 c]) := by rw [ha]; exact putSel_on (e := (4, 31, .tuple #[v_4, .int .i64 c])) 4 rfl rfl (hon 4 (by kernel_rfl)) rfl
      have HQ_ := Aside0.mk HQ
      refine value_ (w1 := w') (v := .tuple #[v_4, .int .i64 c]) (by rfl) rfl ?_ ?_
      · clear ha HQ hon hoff hb_ CQ1 CQ4 AQ8 SQ8 PQ1_8 PQ4_8 MQ5 MQ6
        first | (go_simp; done) | (go_simp; rfl)
      refine hK.out _ _ ⟨v_1, v_4, l_1, h_1, l_4, h_4, gr8_8, .tuple #[v_4, .int .i64 c], m_6, (by rw [ha]; exact putSel_upk 5 hb_ rfl rfl rfl), HQ, CQ1, CQ4, AQ8, SQ8, PQ1_8, PQ4_8, fun _ => rfl, MQ6⟩
    refine steps_cons ?_ ?_
    · rintro b a w' ⟨v_1, v_4, l_1, h_1, l_4, h_4, gr8_8, m_5, m_6, ha, HQ, CQ1, CQ4, AQ8, SQ8, PQ1_8, PQ4_8, MQ5, MQ6⟩ hb_ hon hoff
      refine ⟨_, rfl, fun K hK => ?_⟩
      have e26 : a.tmps[26]? = some (m_5) := by rw [ha]; exact putSel_on (e := (5, 26, m_5)) 5 rfl rfl (hon 5 (by kernel_rfl)) rfl
      rw [MQ5 (hon 5 (by kernel_rfl))] at e26
      have HQ_ := Aside0.mk HQ
      refine value_ (w1 := w') (v := v_4) (by rfl) rfl ?_ ?_
      · clear ha HQ hon hoff hb_ CQ1 CQ4 AQ8 SQ8 PQ1_8 PQ4_8 MQ5 MQ6
        first | (go_simp; done) | (go_simp; rfl)
      refine hK.out _ _ ⟨v_1, v_4, l_1, h_1, l_4, h_4, gr8_8, m_5, v_4, (by rw [ha]; exact putSel_upk 6 hb_ rfl rfl rfl), HQ, CQ1, CQ4, AQ8, SQ8, PQ1_8, PQ4_8, MQ5, fun _ => rfl⟩
    refine steps_cons ?_ ?_
    · rintro b a w' ⟨v_1, v_4, l_1, h_1, l_4, h_4, gr8_8, m_5, m_6, ha, HQ, CQ1, CQ4, AQ8, SQ8, PQ1_8, PQ4_8, MQ5, MQ6⟩ hb_ hon hoff
      refine ⟨_, rfl, fun K hK => ?_⟩
      have e26 : a.tmps[26]? = some (m_5) := by rw [ha]; exact putSel_on (e := (5, 26, m_5)) 5 rfl rfl (hon 5 (by kernel_rfl)) rfl
      rw [MQ5 (hon 5 (by kernel_rfl))] at e26
      have HQ_ := Aside0.mk HQ
      refine value_ (w1 := w') (v := .int .i64 c) (by rfl) rfl ?_ ?_
      · clear ha HQ hon hoff hb_ CQ1 CQ4 AQ8 SQ8 PQ1_8 PQ4_8 MQ5 MQ6
        first | (go_simp; done) | (go_simp; rfl)
      refine hK.out _ _ ⟨v_1, v_4, l_1, h_1, l_4, h_4, gr8_8, m_5, m_6, (by rw [ha]; exact putSel_upk 7 hb_ rfl rfl rfl), HQ, CQ1, CQ4, AQ8, SQ8, PQ1_8, PQ4_8, MQ5, MQ6⟩
    refine steps_cons ?_ ?_
    · rintro b a w' ⟨v_1, v_4, l_1, h_1, l_4, h_4, gr8_8, m_5, m_6, ha, HQ, CQ1, CQ4, AQ8, SQ8, PQ1_8, PQ4_8, MQ5, MQ6⟩ hb_ hon hoff
      refine ⟨_, rfl, fun K hK => ?_⟩
      have HQ_ := Aside0.mk HQ
      have hb : Below w'.heap.size w' (w'.alloc (.cells #[.slice none 0 0, .slice none 0 0, .slice none 0 0, .slice none 0 0, .slice none 0 0] 25 (0, 0))) := below_alloc (Below.refl _ _) _
      have hbk : Bk (w'.alloc (.cells #[.slice none 0 0, .slice none 0 0, .slice none 0 0, .slice none 0 0, .slice none 0 0] 25 (0, 0))) w'.heap.size #[.slice none 0 0, .slice none 0 0, .slice none 0 0, .slice none 0 0, .slice none 0 0] 25 := heap_alloc_new _ _
      have hsz : (w'.alloc (.cells #[.slice none 0 0, .slice none 0 0, .slice none 0 0, .slice none 0 0, .slice none 0 0] 25 (0, 0))).heap.size = w'.heap.size + 1 := (show (Array.push w'.heap _).size = w'.heap.size + 1 from Array.size_push _)
      refine value_ (w1 := (w'.alloc (.cells #[.slice none 0 0, .slice none 0 0, .slice none 0 0, .slice none 0 0, .slice none 0 0] 25 (0, 0)))) (v := .pointer (some ⟨w'.heap.size, 0, none⟩)) (by rfl) rfl ?_ ?_
      · clear ha hb hbk hsz HQ hon hoff hb_ CQ1 CQ4 AQ8 SQ8 PQ1_8 PQ4_8 MQ5 MQ6
        first | (go_simp; done) | (go_simp; rfl)
      refine hK.out _ _ ⟨v_1, v_4, l_1, h_1, l_4, h_4, w'.heap.size, m_5, m_6, (by rw [ha]; exact putSel_upk 8 hb_ rfl rfl rfl), below_step HQ hb, fun h_ => ⟨StR.below (CQ1 h_).1 hb, (CQ1 h_).2.1, Nat.le_trans (CQ1 h_).2.2 (hb).size⟩, fun h_ => ⟨StR.below (CQ4 h_).1 hb, (CQ4 h_).2.1, Nat.le_trans (CQ4 h_).2.2 (hb).size⟩, fun _ => ⟨HQ.size, by rw [hsz]; omega, fun _ => hbk⟩, fun h_ => absurd ((show b 9 = true from h_).symm.trans (hoff 9 (by kernel_rfl))) (by decide), fun h_ _ => Or.inr (CQ1 h_).2.2, fun h_ _ => Or.inr (CQ4 h_).2.2, MQ5, MQ6⟩
    refine steps_cons ?_ ?_
    · rintro b a w' ⟨v_1, v_4, l_1, h_1, l_4, h_4, gr8_8, m_5, m_6, ha, HQ, CQ1, CQ4, AQ8, SQ8, PQ1_8, PQ4_8, MQ5, MQ6⟩ hb_ hon hoff
      refine ⟨_, rfl, fun K hK => ?_⟩
      have e6 : a.tmps[6]? = some (.pointer (some ⟨gr8_8, 0, none⟩)) := by rw [ha]; exact putSel_on (e := (8, 6, .pointer (some ⟨gr8_8, 0, none⟩))) 8 rfl rfl (hon 8 (by kernel_rfl)) rfl
      have e32 : a.tmps[32]? = some (m_6) := by rw [ha]; exact putSel_on (e := (6, 32, m_6)) 6 rfl rfl (hon 6 (by kernel_rfl)) rfl
      rw [MQ6 (hon 6 (by kernel_rfl))] at e32
      have HQ_ := Aside0.mk HQ
      have HA_ := AQ8 (hon 8 (by kernel_rfl))
      have HC_ := (CQ4 (hon 4 (by kernel_rfl))).1
      obtain ⟨x0_, x1_, x2_, x3_, x4_, ev_, o0_, o1_, o2_, o3_, o4_⟩ := HC_.toC.shape
      have e32' := e32
      rw [ev_] at e32'
      refine wp_storeRow_step (by rfl) rfl rfl (eval_of e6) (eval_of e32') (HA_.2.2 hb_) (by kernel_rfl) rfl (by simp [o0_, o1_, o2_, o3_, o4_]) ?_
      intro w5 hk5 hg5
      refine hK.out _ _ ⟨v_1, v_4, l_1, h_1, l_4, h_4, gr8_8, m_5, m_6, (by rw [ha]; exact putSel_none (v := undef) rfl), below_row HQ hg5 HA_.1, fun h_ => ⟨StR.kept (CQ1 h_).1 (kept_row hg5) (fun k_ hk_ => by have := PQ1_8 h_ (hon 8 (by kernel_rfl)); obtain ⟨h1_, h2_⟩ := hk_; omega), (CQ1 h_).2.1, by rw [hg5.2.1]; exact (CQ1 h_).2.2⟩, fun h_ => ⟨StR.kept (CQ4 h_).1 (kept_row hg5) (fun k_ hk_ => by have := PQ4_8 h_ (hon 8 (by kernel_rfl)); obtain ⟨h1_, h2_⟩ := hk_; omega), (CQ4 h_).2.1, by rw [hg5.2.1]; exact (CQ4 h_).2.2⟩, fun h_ => ⟨(AQ8 h_).1, by rw [hg5.2.1]; exact (AQ8 h_).2.1, fun h2_ => absurd h2_ (by rw [up_self]; decide)⟩, fun _ => ⟨_, ev_, hk5⟩, PQ1_8, PQ4_8, MQ5, MQ6⟩
    refine steps_cons ?_ ?_
    · rintro b a w' ⟨v_1, v_4, l_1, h_1, l_4, h_4, gr8_8, m_5, m_6, ha, HQ, CQ1, CQ4, AQ8, SQ8, PQ1_8, PQ4_8, MQ5, MQ6⟩ hb_ hon hoff
      refine ⟨_, rfl, fun K hK => ?_⟩
      have e33 : a.tmps[33]? = some (.int .i64 c) := by rw [ha]; exact putSel_on (e := (7, 33, .int .i64 c)) 7 rfl rfl (hon 7 (by kernel_rfl)) rfl
      have HQ_ := Aside0.mk HQ
      refine value_ (w1 := w') (v := .int .i64 c) (by rfl) rfl ?_ ?_
      · clear ha HQ hon hoff hb_ CQ1 CQ4 AQ8 SQ8 PQ1_8 PQ4_8 MQ5 MQ6
        first | (go_simp; done) | (go_simp; rfl)
      refine hK.out _ _ ⟨v_1, v_4, l_1, h_1, l_4, h_4, gr8_8, m_5, m_6, (by rw [ha]; exact putSel_upk 9 hb_ rfl rfl rfl), HQ, CQ1, CQ4, AQ8, SQ8, PQ1_8, PQ4_8, MQ5, MQ6⟩
    exact steps_nil
  rintro b a W34 hall ⟨v_1, v_4, l_1, h_1, l_4, h_4, gr8_8, m_5, m_6, ha, HQ, CQ1, CQ4, AQ8, SQ8, PQ1_8, PQ4_8, MQ5, MQ6⟩
  have hb0_ := hall 0 (by kernel_rfl)
  have hb1_ := hall 1 (by kernel_rfl)
  have hb2_ := hall 2 (by kernel_rfl)
  have hb3_ := hall 3 (by kernel_rfl)
  have hb4_ := hall 4 (by kernel_rfl)
  have hb5_ := hall 5 (by kernel_rfl)
  have hb6_ := hall 6 (by kernel_rfl)
  have hb7_ := hall 7 (by kernel_rfl)
  have hb8_ := hall 8 (by kernel_rfl)
  have hb9_ := hall 9 (by kernel_rfl)
  have hb10_ := hall 10 (by kernel_rfl)
  obtain rfl := MQ5 hb5_
  obtain rfl := MQ6 hb6_
  subst ha
  simp only [putSel, hb0_, hb1_, hb2_, hb3_, hb4_, hb5_, hb6_, hb7_, hb8_, hb9_, hb10_, if_true, Act.put, List.setIfInBounds_toArray, List.set_cons_zero, List.set_cons_succ]
  have HB35 := Aside0.mk HQ
  obtain ⟨cs_, rfl, hbk_⟩ := SQ8 hb9_
  obtain ⟨hr_, hl_, hh_⟩ := CQ4 hb4_
  obtain ⟨hg1_, hg2_, _⟩ := AQ8 hb8_
  have PP42 := Aside0.mk (PQ4_8 hb4_ hb8_)
  have HRs36 := Aside0.mk hr_
  obtain ⟨as36_0, ds36_0, as36_1, ds36_1, as36_2, ds36_2, as36_3, ds36_3, as36_4, ds36_4, ev_, _⟩ := hr_.toC
  injection ev_ with ev_
  subst ev_
  have BK37 := Aside0.mk hbk_
  have L38 := Aside0.mk hl_
  have L39 := Aside0.mk hh_
  have G40 := Aside0.mk hg1_
  have G41 := Aside0.mk hg2_
  clear hbk_ hl_ hh_ hg1_ hg2_ hr_
  clear HQ CQ1 CQ4 AQ8 SQ8 PQ1_8 PQ4_8 hall hb0_ hb1_ hb2_ hb3_ hb4_ hb5_ hb6_ hb7_ hb8_ hb9_ hb10_
  clear HT_ HW_
  go_wp2_with (first | ((with_reducible refine gate_dst (N := 34) rfl ?_); refine ev_load rfl (N := 34) rfl rfl (g := g2) rfl (cs := #[.slice A0_0 s0.now.length c0_0, .slice A0_1 s0.sure.length c0_1, .slice A0_2 s0.last.length c0_2, .slice A0_3 s0.slast.length c0_3, .slice A0_4 s0.floors.length c0_4]) (Bk.below BK2.out (below_step (below_step (below_step (below_step HB7.out HB14.out) HB18.out) HB20.out) HB35.out)) hu30 rfl (by kernel_rfl) ?_))
  refine (toStore_c (StC.below HV0.out (below_step (below_step (below_step (below_step (below_step HB3.out HB7.out) HB14.out) HB18.out) HB20.out) HB35.out)) HS11.out).mono ?_
  rintro e W47 ⟨u44, rfl, hr45, hb48⟩
  have HB49 := Aside0.mk hb48
  clear hb48
  have HRs46 := Aside0.mk hr45
  obtain ⟨as46_0, ds46_0, as46_1, ds46_1, as46_2, ds46_2, as46_3, ds46_3, as46_4, ds46_4, rfl, _⟩ := hr45.toC
  clear hr45
  go_wp2_with (first | ((with_reducible refine gate_dst (N := 8) rfl ?_); refine ev_box ?hg (N := 8) ?hd (cs := #[.slice none 0 0, .slice none 0 0, .slice none 0 0, .slice none 0 0, .slice none 0 0]) (t := 25) ?hr ?_; (case hd => rfl); (case hg => rfl); (case hr => first | (go_simp; done) | (go_simp; rfl)); intro g8 W50 HG53 BK51 HB52) | ((with_reducible refine gate_store (t := 25) (p := 8) rfl ?_); refine ev_store rfl rfl rfl (g := g8) rfl (cs := #[.slice as46_0 s0.now.length ds46_0, .slice as46_1 s0.sure.length ds46_1, .slice as46_2 s0.last.length ds46_2, .slice as46_3 s0.slast.length ds46_3, .slice as46_4 s0.floors.length ds46_4]) rfl BK51.out (by kernel_rfl) rfl rfl ?_; intro W54 BK55 HB56; have HB57 := Aside0.mk (below_new HG53.out HB52.out HB56.out); clear BK51 HB52 HB56))
  refine start_ (n := 10) (S := fun w' => True) (ds := []) #[false, false, false, false, false, false, false, false, false, false] (by kernel_rfl) rfl rfl trivial (fun hHeld => ?_)
  clear hHeld
  refine with_tabW FnExactStoreDo_r10.tab FnExactStoreDo_r10.bits (fun HT_ HW_ => ?_)
  refine world_at (w := W54) (below_drew0 _) (fun W58 HB59 => ?_)
  refine inv_at [0, 1, 2, 3, 4, 5, 6, 7, 8, 9] (fun a0_ b a w' => ∃ (v_3 : Value) (l_3 : Nat) (h_3 : Nat) (gr10_7 : Nat) (m_4 : Value) (m_5 : Value), a = putSel a0_ b [(0, 37, .agg #[.slice as46_0 s0.now.length ds46_0, .slice as46_1 s0.sure.length ds46_1, .slice as46_2 s0.last.length ds46_2, .slice as46_3 s0.slast.length ds46_3, .slice as46_4 s0.floors.length ds46_4]), (1, 38, .agg #[.int .i64 who, .int .i64 ep, .int .i64 num, .int .i64 obj, .int .i64 at_, .string data]), (2, 39, .agg #[.int .i64 who, .int .i64 ep, .int .i64 num, .int .i64 obj, .int .i64 at_, .string data]), (3, 40, .tuple #[v_3, .int .i64 c]), (4, 36, m_4), (5, 41, m_5), (6, 42, .int .i64 c), (7, 9, .pointer (some ⟨gr10_7, 0, none⟩)), (9, 10, .int .i64 c)] ∧ Below W58.heap.size W58 w' ∧ (b 3 = true → StR w' l_3 h_3 v_3 (t) ∧ W58.heap.size ≤ l_3 ∧ h_3 ≤ w'.heap.size) ∧ (b 7 = true → W58.heap.size ≤ gr10_7 ∧ gr10_7 < w'.heap.size ∧ (b 8 = false → Bk w' gr10_7 #[.slice none 0 0, .slice none 0 0, .slice none 0 0, .slice none 0 0, .slice none 0 0] 25)) ∧ (b 8 = true → ∃ cs_, v_3 = .agg cs_ ∧ Bk w' gr10_7 cs_ 25) ∧ (b 3 = true → b 7 = true → gr10_7 < l_3 ∨ h_3 ≤ gr10_7) ∧ (b 4 = true → m_4 = .tuple #[v_3, .int .i64 c]) ∧ (b 5 = true → m_5 = v_3)) HT_.out HW_.out (by kernel_rfl) (by kernel_rfl) ?_ ?_ ?_
  · exact ⟨.bool false, 0, 0, 0, .bool false, .bool false, by simp only [putSel, Bool.false_eq_true, if_false], Below.refl _ _, fun h_ => absurd h_ (by decide), fun h_ => absurd h_ (by decide), fun h_ => absurd h_ (by decide), fun h_ => absurd h_ (by decide), fun h_ => absurd h_ (by decide), fun h_ => absurd h_ (by decide)⟩
  · refine steps_cons ?_ ?_
    · rintro b a w' ⟨v_3, l_3, h_3, gr10_7, m_4, m_5, ha, HQ, CQ3, AQ7, SQ7, PQ3_7, MQ4, MQ5⟩ hb_ hon hoff
      refine ⟨_, rfl, fun K hK => ?_⟩
      have e8 : a.tmps[8]? = some (.pointer (some ⟨g8, 0, none⟩)) := by rw [ha]; exact (putSel_off rfl).trans rfl
      have HQ_ := Aside0.mk HQ
      refine value_ (w1 := w') (v := .agg #[.slice as46_0 s0.now.length ds46_0, .slice as46_1 s0.sure.length ds46_1, .slice as46_2 s0.last.length ds46_2, .slice as46_3 s0.slast.length ds46_3, .slice as46_4 s0.floors.length ds46_4]) (by rfl) rfl ?_ ?_
      · exact run_load_ev rfl (eval_of e8) (Bk.below BK55.out (below_step HB59.out HQ_.out)) hu25 rfl (by kernel_rfl)
      refine hK.out _ _ ⟨v_3, l_3, h_3, gr10_7, m_4, m_5, (by rw [ha]; exact putSel_upk 0 hb_ rfl rfl rfl), HQ, CQ3, AQ7, SQ7, PQ3_7, MQ4, MQ5⟩
    refine steps_cons ?_ ?_
    · rintro b a w' ⟨v_3, l_3, h_3, gr10_7, m_4, m_5, ha, HQ, CQ3, AQ7, SQ7, PQ3_7, MQ4, MQ5⟩ hb_ hon hoff
      refine ⟨_, rfl, fun K hK => ?_⟩
      have e3 : a.tmps[3]? = some (.pointer (some ⟨g3, 0, none⟩)) := by rw [ha]; exact (putSel_off rfl).trans rfl
      have HQ_ := Aside0.mk HQ
      refine value_ (w1 := w') (v := .agg #[.int .i64 who, .int .i64 ep, .int .i64 num, .int .i64 obj, .int .i64 at_, .string data]) (by rfl) rfl ?_ ?_
      · exact run_load_ev rfl (eval_of e3) (Bk.below BK6.out (below_step (below_step (below_step (below_step (below_step (below_step (below_step HB14.out HB18.out) HB20.out) HB35.out) HB49.out) HB57.out) HB59.out) HQ_.out)) hu59 rfl (by kernel_rfl)
      refine hK.out _ _ ⟨v_3, l_3, h_3, gr10_7, m_4, m_5, (by rw [ha]; exact putSel_upk 1 hb_ rfl rfl rfl), HQ, CQ3, AQ7, SQ7, PQ3_7, MQ4, MQ5⟩
    refine steps_cons ?_ ?_
    · rintro b a w' ⟨v_3, l_3, h_3, gr10_7, m_4, m_5, ha, HQ, CQ3, AQ7, SQ7, PQ3_7, MQ4, MQ5⟩ hb_ hon hoff
      refine ⟨_, rfl, fun K hK => ?_⟩
      have e38 : a.tmps[38]? = some (.agg #[.int .i64 who, .int .i64 ep, .int .i64 num, .int .i64 obj, .int .i64 at_, .string data]) := by rw [ha]; exact putSel_on (e := (1, 38, .agg #[.int .i64 who, .int .i64 ep, .int .i64 num, .int .i64 obj, .int .i64 at_, .string data])) 1 rfl rfl (hon 1 (by kernel_rfl)) rfl
      have HQ_ := Aside0.mk HQ
      refine goes_ Try.func43 (by kernel_rfl) rfl #[.agg #[.int .i64 who, .int .i64 ep, .int .i64 num, .int .i64 obj, .int .i64 at_, .string data]] (by rfl) rfl rfl (by simp only [List.map_toArray, List.map_cons, List.map_nil, eval_of e38]) ?_
      refine (toReq_c who ep num obj at_ data).mono ?_
      rintro e_ w5 ⟨rfl, hb⟩
      refine ⟨_, rfl, ?_⟩
      refine hK.out _ _ ⟨v_3, l_3, h_3, gr10_7, m_4, m_5, (by rw [ha]; exact putSel_upk 2 hb_ rfl rfl rfl), below_step HQ hb, fun h_ => ⟨StR.below (CQ3 h_).1 hb, (CQ3 h_).2.1, Nat.le_trans (CQ3 h_).2.2 (hb).size⟩, fun h_ => ⟨(AQ7 h_).1, Nat.lt_of_lt_of_le (AQ7 h_).2.1 (hb).size, fun h2_ => Bk.below ((AQ7 h_).2.2 h2_) hb⟩, fun h_ => (SQ7 h_).imp fun cs_ x_ => ⟨x_.1, Bk.below x_.2 hb⟩, PQ3_7, MQ4, MQ5⟩
    refine steps_cons ?_ ?_
    · rintro b a w' ⟨v_3, l_3, h_3, gr10_7, m_4, m_5, ha, HQ, CQ3, AQ7, SQ7, PQ3_7, MQ4, MQ5⟩ hb_ hon hoff
      refine ⟨_, rfl, fun K hK => ?_⟩
      have e37 : a.tmps[37]? = some (.agg #[.slice as46_0 s0.now.length ds46_0, .slice as46_1 s0.sure.length ds46_1, .slice as46_2 s0.last.length ds46_2, .slice as46_3 s0.slast.length ds46_3, .slice as46_4 s0.floors.length ds46_4]) := by rw [ha]; exact putSel_on (e := (0, 37, .agg #[.slice as46_0 s0.now.length ds46_0, .slice as46_1 s0.sure.length ds46_1, .slice as46_2 s0.last.length ds46_2, .slice as46_3 s0.slast.length ds46_3, .slice as46_4 s0.floors.length ds46_4])) 0 rfl rfl (hon 0 (by kernel_rfl)) rfl
      have e39 : a.tmps[39]? = some (.agg #[.int .i64 who, .int .i64 ep, .int .i64 num, .int .i64 obj, .int .i64 at_, .string data]) := by rw [ha]; exact putSel_on (e := (2, 39, .agg #[.int .i64 who, .int .i64 ep, .int .i64 num, .int .i64 obj, .int .i64 at_, .string data])) 2 rfl rfl (hon 2 (by kernel_rfl)) rfl
      have HQ_ := Aside0.mk HQ
      refine goes_ Try.func44 (by kernel_rfl) rfl #[.agg #[.slice as46_0 s0.now.length ds46_0, .slice as46_1 s0.sure.length ds46_1, .slice as46_2 s0.last.length ds46_2, .slice as46_3 s0.slast.length ds46_3, .slice as46_4 s0.floors.length ds46_4], .agg #[.int .i64 who, .int .i64 ep, .int .i64 num, .int .i64 obj, .int .i64 at_, .string data]] (by rfl) rfl rfl (by simp only [List.map_toArray, List.map_cons, List.map_nil, eval_of e37, eval_of e39]) ?_
      refine (impl_StoreDo_c (StR.toC (StR.below HRs46.out (below_step (below_step HB57.out HB59.out) HQ_.out))) HZ0.out HS11.out HD.out HT.out).mono ?_
      rintro e_ w5 ⟨u64, rfl, hr65, hb⟩
      refine ⟨_, rfl, ?_⟩
      refine hK.out _ _ ⟨u64, w'.heap.size, w5.heap.size, gr10_7, m_4, m_5, (by rw [ha]; exact putSel_upk 3 hb_ rfl rfl rfl), below_step HQ hb, fun _ => ⟨hr65, (show W58.heap.size ≤ w'.heap.size from HQ.size), Nat.le_refl _⟩, fun h_ => ⟨(AQ7 h_).1, Nat.lt_of_lt_of_le (AQ7 h_).2.1 (hb).size, fun h2_ => Bk.below ((AQ7 h_).2.2 h2_) hb⟩, fun h_ => absurd ((show b 8 = true from h_).symm.trans (hoff 8 (by kernel_rfl))) (by decide), fun _ h2_ => Or.inl (AQ7 h2_).2.1, fun h_ => absurd ((show b 4 = true from h_).symm.trans (hoff 4 (by kernel_rfl))) (by decide), fun h_ => absurd ((show b 5 = true from h_).symm.trans (hoff 5 (by kernel_rfl))) (by decide)⟩
    refine steps_cons ?_ ?_
    · rintro b a w' ⟨v_3, l_3, h_3, gr10_7, m_4, m_5, ha, HQ, CQ3, AQ7, SQ7, PQ3_7, MQ4, MQ5⟩ hb_ hon hoff
      refine ⟨_, rfl, fun K hK => ?_⟩
      have e40 : a.tmps[40]? = some (.tuple #[v_3, .int .i64 c]) := by rw [ha]; exact putSel_on (e := (3, 40, .tuple #[v_3, .int .i64 c])) 3 rfl rfl (hon 3 (by kernel_rfl)) rfl
      have HQ_ := Aside0.mk HQ
      refine value_ (w1 := w') (v := .tuple #[v_3, .int .i64 c]) (by rfl) rfl ?_ ?_
      · clear ha HQ hon hoff hb_ CQ3 AQ7 SQ7 PQ3_7 MQ4 MQ5
        first | (go_simp; done) | (go_simp; rfl)
      refine hK.out _ _ ⟨v_3, l_3, h_3, gr10_7, .tuple #[v_3, .int .i64 c], m_5, (by rw [ha]; exact putSel_upk 4 hb_ rfl rfl rfl), HQ, CQ3, AQ7, SQ7, PQ3_7, fun _ => rfl, MQ5⟩
    refine steps_cons ?_ ?_
    · rintro b a w' ⟨v_3, l_3, h_3, gr10_7, m_4, m_5, ha, HQ, CQ3, AQ7, SQ7, PQ3_7, MQ4, MQ5⟩ hb_ hon hoff
      refine ⟨_, rfl, fun K hK => ?_⟩
      have e36 : a.tmps[36]? = some (m_4) := by rw [ha]; exact putSel_on (e := (4, 36, m_4)) 4 rfl rfl (hon 4 (by kernel_rfl)) rfl
      rw [MQ4 (hon 4 (by kernel_rfl))] at e36
      have HQ_ := Aside0.mk HQ
      refine value_ (w1 := w') (v := v_3) (by rfl) rfl ?_ ?_
      · clear ha HQ hon hoff hb_ CQ3 AQ7 SQ7 PQ3_7 MQ4 MQ5
        first | (go_simp; done) | (go_simp; rfl)
      refine hK.out _ _ ⟨v_3, l_3, h_3, gr10_7, m_4, v_3, (by rw [ha]; exact putSel_upk 5 hb_ rfl rfl rfl), HQ, CQ3, AQ7, SQ7, PQ3_7, MQ4, fun _ => rfl⟩
    refine steps_cons ?_ ?_
    · rintro b a w' ⟨v_3, l_3, h_3, gr10_7, m_4, m_5, ha, HQ, CQ3, AQ7, SQ7, PQ3_7, MQ4, MQ5⟩ hb_ hon hoff
      refine ⟨_, rfl, fun K hK => ?_⟩
      have e36 : a.tmps[36]? = some (m_4) := by rw [ha]; exact putSel_on (e := (4, 36, m_4)) 4 rfl rfl (hon 4 (by kernel_rfl)) rfl
      rw [MQ4 (hon 4 (by kernel_rfl))] at e36
      have HQ_ := Aside0.mk HQ
      refine value_ (w1 := w') (v := .int .i64 c) (by rfl) rfl ?_ ?_
      · clear ha HQ hon hoff hb_ CQ3 AQ7 SQ7 PQ3_7 MQ4 MQ5
        first | (go_simp; done) | (go_simp; rfl)
      refine hK.out _ _ ⟨v_3, l_3, h_3, gr10_7, m_4, m_5, (by rw [ha]; exact putSel_upk 6 hb_ rfl rfl rfl), HQ, CQ3, AQ7, SQ7, PQ3_7, MQ4, MQ5⟩
    refine steps_cons ?_ ?_
    · rintro b a w' ⟨v_3, l_3, h_3, gr10_7, m_4, m_5, ha, HQ, CQ3, AQ7, SQ7, PQ3_7, MQ4, MQ5⟩ hb_ hon hoff
      refine ⟨_, rfl, fun K hK => ?_⟩
      have HQ_ := Aside0.mk HQ
      have hb : Below w'.heap.size w' (w'.alloc (.cells #[.slice none 0 0, .slice none 0 0, .slice none 0 0, .slice none 0 0, .slice none 0 0] 25 (0, 0))) := below_alloc (Below.refl _ _) _
      have hbk : Bk (w'.alloc (.cells #[.slice none 0 0, .slice none 0 0, .slice none 0 0, .slice none 0 0, .slice none 0 0] 25 (0, 0))) w'.heap.size #[.slice none 0 0, .slice none 0 0, .slice none 0 0, .slice none 0 0, .slice none 0 0] 25 := heap_alloc_new _ _
      have hsz : (w'.alloc (.cells #[.slice none 0 0, .slice none 0 0, .slice none 0 0, .slice none 0 0, .slice none 0 0] 25 (0, 0))).heap.size = w'.heap.size + 1 := (show (Array.push w'.heap _).size = w'.heap.size + 1 from Array.size_push _)
      refine value_ (w1 := (w'.alloc (.cells #[.slice none 0 0, .slice none 0 0, .slice none 0 0, .slice none 0 0, .slice none 0 0] 25 (0, 0)))) (v := .pointer (some ⟨w'.heap.size, 0, none⟩)) (by rfl) rfl ?_ ?_
      · clear ha hb hbk hsz HQ hon hoff hb_ CQ3 AQ7 SQ7 PQ3_7 MQ4 MQ5
        first | (go_simp; done) | (go_simp; rfl)
      refine hK.out _ _ ⟨v_3, l_3, h_3, w'.heap.size, m_4, m_5, (by rw [ha]; exact putSel_upk 7 hb_ rfl rfl rfl), below_step HQ hb, fun h_ => ⟨StR.below (CQ3 h_).1 hb, (CQ3 h_).2.1, Nat.le_trans (CQ3 h_).2.2 (hb).size⟩, fun _ => ⟨HQ.size, by rw [hsz]; omega, fun _ => hbk⟩, fun h_ => absurd ((show b 8 = true from h_).symm.trans (hoff 8 (by kernel_rfl))) (by decide), fun h_ _ => Or.inr (CQ3 h_).2.2, MQ4, MQ5⟩
    refine steps_cons ?_ ?_
    · rintro b a w' ⟨v_3, l_3, h_3, gr10_7, m_4, m_5, ha, HQ, CQ3, AQ7, SQ7, PQ3_7, MQ4, MQ5⟩ hb_ hon hoff
      refine ⟨_, rfl, fun K hK => ?_⟩
      have e9 : a.tmps[9]? = some (.pointer (some ⟨gr10_7, 0, none⟩)) := by rw [ha]; exact putSel_on (e := (7, 9, .pointer (some ⟨gr10_7, 0, none⟩))) 7 rfl rfl (hon 7 (by kernel_rfl)) rfl
      have e41 : a.tmps[41]? = some (m_5) := by rw [ha]; exact putSel_on (e := (5, 41, m_5)) 5 rfl rfl (hon 5 (by kernel_rfl)) rfl
      rw [MQ5 (hon 5 (by kernel_rfl))] at e41
      have HQ_ := Aside0.mk HQ
      have HA_ := AQ7 (hon 7 (by kernel_rfl))
      have HC_ := (CQ3 (hon 3 (by kernel_rfl))).1
      obtain ⟨x0_, x1_, x2_, x3_, x4_, ev_, o0_, o1_, o2_, o3_, o4_⟩ := HC_.toC.shape
      have e41' := e41
      rw [ev_] at e41'
      refine wp_storeRow_step (by rfl) rfl rfl (eval_of e9) (eval_of e41') (HA_.2.2 hb_) (by kernel_rfl) rfl (by simp [o0_, o1_, o2_, o3_, o4_]) ?_
      intro w5 hk5 hg5
      refine hK.out _ _ ⟨v_3, l_3, h_3, gr10_7, m_4, m_5, (by rw [ha]; exact putSel_none (v := undef) rfl), below_row HQ hg5 HA_.1, fun h_ => ⟨StR.kept (CQ3 h_).1 (kept_row hg5) (fun k_ hk_ => by have := PQ3_7 h_ (hon 7 (by kernel_rfl)); obtain ⟨h1_, h2_⟩ := hk_; omega), (CQ3 h_).2.1, by rw [hg5.2.1]; exact (CQ3 h_).2.2⟩, fun h_ => ⟨(AQ7 h_).1, by rw [hg5.2.1]; exact (AQ7 h_).2.1, fun h2_ => absurd h2_ (by rw [up_self]; decide)⟩, fun _ => ⟨_, ev_, hk5⟩, PQ3_7, MQ4, MQ5⟩
    refine steps_cons ?_ ?_
    · rintro b a w' ⟨v_3, l_3, h_3, gr10_7, m_4, m_5, ha, HQ, CQ3, AQ7, SQ7, PQ3_7, MQ4, MQ5⟩ hb_ hon hoff
      refine ⟨_, rfl, fun K hK => ?_⟩
      have e42 : a.tmps[42]? = some (.int .i64 c) := by rw [ha]; exact putSel_on (e := (6, 42, .int .i64 c)) 6 rfl rfl (hon 6 (by kernel_rfl)) rfl
      have HQ_ := Aside0.mk HQ
      refine value_ (w1 := w') (v := .int .i64 c) (by rfl) rfl ?_ ?_
      · clear ha HQ hon hoff hb_ CQ3 AQ7 SQ7 PQ3_7 MQ4 MQ5
        first | (go_simp; done) | (go_simp; rfl)
      refine hK.out _ _ ⟨v_3, l_3, h_3, gr10_7, m_4, m_5, (by rw [ha]; exact putSel_upk 8 hb_ rfl rfl rfl), HQ, CQ3, AQ7, SQ7, PQ3_7, MQ4, MQ5⟩
    exact steps_nil
  rintro b a W67 hall ⟨v_3, l_3, h_3, gr10_7, m_4, m_5, ha, HQ, CQ3, AQ7, SQ7, PQ3_7, MQ4, MQ5⟩
  have hb0_ := hall 0 (by kernel_rfl)
  have hb1_ := hall 1 (by kernel_rfl)
  have hb2_ := hall 2 (by kernel_rfl)
  have hb3_ := hall 3 (by kernel_rfl)
  have hb4_ := hall 4 (by kernel_rfl)
  have hb5_ := hall 5 (by kernel_rfl)
  have hb6_ := hall 6 (by kernel_rfl)
  have hb7_ := hall 7 (by kernel_rfl)
  have hb8_ := hall 8 (by kernel_rfl)
  have hb9_ := hall 9 (by kernel_rfl)
  obtain rfl := MQ4 hb4_
  obtain rfl := MQ5 hb5_
  subst ha
  simp only [putSel, hb0_, hb1_, hb2_, hb3_, hb4_, hb5_, hb6_, hb7_, hb8_, hb9_, if_true, Act.put, List.setIfInBounds_toArray, List.set_cons_zero, List.set_cons_succ]
  have HB68 := Aside0.mk HQ
  obtain ⟨cs_, rfl, hbk_⟩ := SQ7 hb8_
  obtain ⟨hr_, hl_, hh_⟩ := CQ3 hb3_
  obtain ⟨hg1_, hg2_, _⟩ := AQ7 hb7_
  have PP75 := Aside0.mk (PQ3_7 hb3_ hb7_)
  have HRs69 := Aside0.mk hr_
  obtain ⟨as69_0, ds69_0, as69_1, ds69_1, as69_2, ds69_2, as69_3, ds69_3, as69_4, ds69_4, ev_, _⟩ := hr_.toC
  injection ev_ with ev_
  subst ev_
  have BK70 := Aside0.mk hbk_
  have L71 := Aside0.mk hl_
  have L72 := Aside0.mk hh_
  have G73 := Aside0.mk hg1_
  have G74 := Aside0.mk hg2_
  clear hbk_ hl_ hh_ hg1_ hg2_ hr_
  clear HQ CQ3 AQ7 SQ7 PQ3_7 hall hb0_ hb1_ hb2_ hb3_ hb4_ hb5_ hb6_ hb7_ hb8_ hb9_
  clear HT_ HW_
  go_wp2_with (first | ((with_reducible refine gate_dst (N := 43) rfl ?_); refine ev_load rfl (N := 43) rfl rfl (g := gr10_7) rfl (cs := #[.slice as69_0 t.now.length ds69_0, .slice as69_1 t.sure.length ds69_1, .slice as69_2 t.last.length ds69_2, .slice as69_3 t.slast.length ds69_3, .slice as69_4 t.floors.length ds69_4]) BK70.out hu25 rfl (by kernel_rfl) ?_) | ((with_reducible refine gate_dst (N := 44) rfl ?_); refine ev_load rfl (N := 44) rfl rfl (g := gr8_8) rfl (cs := #[.slice as36_0 t.now.length ds36_0, .slice as36_1 t.sure.length ds36_1, .slice as36_2 t.last.length ds36_2, .slice as36_3 t.slast.length ds36_3, .slice as36_4 t.floors.length ds36_4]) (Bk.below BK37.out (below_step (below_step (below_step HB49.out HB57.out) HB59.out) HB68.out)) hu25 rfl (by kernel_rfl) ?_))
  refine (eqStore_t (StR.toC HRs69.out) (StR.toC (StR.below HRs36.out (below_step (below_step (below_step HB49.out HB57.out) HB59.out) HB68.out)))).mono ?_
  rintro e W77 ⟨rfl, hb78⟩
  have HB79 := Aside0.mk hb78
  clear hb78
  go_wp2_with (fail)
  refine start_ (n := 5) (S := fun w' => Bk w' g8 #[.slice as46_0 s0.now.length ds46_0, .slice as46_1 s0.sure.length ds46_1, .slice as46_2 s0.last.length ds46_2, .slice as46_3 s0.slast.length ds46_3, .slice as46_4 s0.floors.length ds46_4] 25 ∧ Bk w' g2 #[.slice A0_0 s0.now.length c0_0, .slice A0_1 s0.sure.length c0_1, .slice A0_2 s0.last.length c0_2, .slice A0_3 s0.slast.length c0_3, .slice A0_4 s0.floors.length c0_4] 30) (ds := []) #[false, false, false, false, false] (by kernel_rfl) rfl rfl ⟨(show Bk W77 g8 #[.slice as46_0 s0.now.length ds46_0, .slice as46_1 s0.sure.length ds46_1, .slice as46_2 s0.last.length ds46_2, .slice as46_3 s0.slast.length ds46_3, .slice as46_4 s0.floors.length ds46_4] 25 from (Bk.below BK55.out (below_step (below_step HB59.out HB68.out) HB79.out))), (show Bk W77 g2 #[.slice A0_0 s0.now.length c0_0, .slice A0_1 s0.sure.length c0_1, .slice A0_2 s0.last.length c0_2, .slice A0_3 s0.slast.length c0_3, .slice A0_4 s0.floors.length c0_4] 30 from (Bk.below BK2.out (below_step (below_step (below_step (below_step (below_step (below_step (below_step (below_step (below_step HB7.out HB14.out) HB18.out) HB20.out) HB35.out) HB49.out) HB57.out) HB59.out) HB68.out) HB79.out)))⟩ (fun hHeld => ?_)
  clear hHeld
  refine world_at (w := W77) (below_drew0 _) (fun W80 HB81 => ?_)
  refine take_ (i := 0) (N := some 52) (v := .agg #[.slice as46_0 s0.now.length ds46_0, .slice as46_1 s0.sure.length ds46_1, .slice as46_2 s0.last.length ds46_2, .slice as46_3 s0.slast.length ds46_3, .slice as46_4 s0.floors.length ds46_4]) (a' := ?_) #[true, false, false, false, false] rfl rfl (by kernel_rfl) (fun _ _ _ h => h) (Or.inl ⟨by rfl, ?_⟩) ⟨(Bk.below BK55.out (below_step (below_step (below_step HB59.out HB68.out) HB79.out) HB81.out)), (Bk.below BK2.out (below_step (below_step (below_step (below_step (below_step (below_step (below_step (below_step (below_step (below_step HB7.out HB14.out) HB18.out) HB20.out) HB35.out) HB49.out) HB57.out) HB59.out) HB68.out) HB79.out) HB81.out))⟩ ?_ ?_
  · rintro w' ⟨s0_, s1_⟩
    exact run_load_ev rfl rfl s0_ hu25 rfl (by kernel_rfl)
  rotate_left
  · simp only [Act.put, List.setIfInBounds_toArray, List.set_cons_zero, List.set_cons_succ, i64_w, i32_w]
    rfl
  refine take_ (i := 1) (N := some 53) (v := .agg #[.slice A0_0 s0.now.length c0_0, .slice A0_1 s0.sure.length c0_1, .slice A0_2 s0.last.length c0_2, .slice A0_3 s0.slast.length c0_3, .slice A0_4 s0.floors.length c0_4]) (a' := ?_) #[true, true, false, false, false] rfl rfl (by kernel_rfl) (fun _ _ _ h => h) (Or.inl ⟨by rfl, ?_⟩) ⟨(Bk.below BK55.out (below_step (below_step (below_step HB59.out HB68.out) HB79.out) HB81.out)), (Bk.below BK2.out (below_step (below_step (below_step (below_step (below_step (below_step (below_step (below_step (below_step (below_step HB7.out HB14.out) HB18.out) HB20.out) HB35.out) HB49.out) HB57.out) HB59.out) HB68.out) HB79.out) HB81.out))⟩ ?_ ?_
  · rintro w' ⟨s0_, s1_⟩
    exact run_load_ev rfl rfl s1_ hu30 rfl (by kernel_rfl)
  rotate_left
  · simp only [Act.put, List.setIfInBounds_toArray, List.set_cons_zero, List.set_cons_succ, i64_w, i32_w]
    rfl
  refine one_ (i := 2) (N := some 54) #[true, true, true, false, false] rfl rfl (by kernel_rfl) (by decide) (fun K hK => ?_)
  refine goes_ Try.func19 (by kernel_rfl) rfl #[.agg #[.slice A0_0 s0.now.length c0_0, .slice A0_1 s0.sure.length c0_1, .slice A0_2 s0.last.length c0_2, .slice A0_3 s0.slast.length c0_3, .slice A0_4 s0.floors.length c0_4]] (by rfl) rfl rfl (by (try simp only [List.map_toArray, List.map_cons, List.map_nil]); first | done | rfl) ?_
  refine (toStore_c (StC.below HV0.out (below_step (below_step (below_step (below_step (below_step (below_step (below_step (below_step (below_step (below_step (below_step HB3.out HB7.out) HB14.out) HB18.out) HB20.out) HB35.out) HB49.out) HB57.out) HB59.out) HB68.out) HB79.out) HB81.out)) HS11.out).mono ?_
  rintro e W85 ⟨u82, rfl, hr83, hb86⟩
  have HB87 := Aside0.mk hb86
  clear hb86
  have HRs84 := Aside0.mk hr83
  obtain ⟨as84_0, ds84_0, as84_1, ds84_1, as84_2, ds84_2, as84_3, ds84_3, as84_4, ds84_4, rfl, _⟩ := hr83.toC
  clear hr83
  refine ⟨_, rfl, ?_⟩
  refine hK.out _ _ ⟨(Bk.below BK55.out (below_step (below_step (below_step (below_step HB59.out HB68.out) HB79.out) HB81.out) HB87.out)), (Bk.below BK2.out (below_step (below_step (below_step (below_step (below_step (below_step (below_step (below_step (below_step (below_step (below_step HB7.out HB14.out) HB18.out) HB20.out) HB35.out) HB49.out) HB57.out) HB59.out) HB68.out) HB79.out) HB81.out) HB87.out))⟩ (fun hHeld => ?_)
  clear hHeld hK K
  refine norm_ (a' := ?_) ?_ ?_
  rotate_left
  · show Act.put _ (some 54) _ = _
    simp only [Act.put, List.setIfInBounds_toArray, List.set_cons_zero, List.set_cons_succ, i64_w, i32_w]
    rfl
  refine one_ (i := 3) (N := some 55) #[true, true, true, true, false] rfl rfl (by kernel_rfl) (by decide) (fun K hK => ?_)
  refine goes_ Try.func14 (by kernel_rfl) rfl #[.agg #[.slice as46_0 s0.now.length ds46_0, .slice as46_1 s0.sure.length ds46_1, .slice as46_2 s0.last.length ds46_2, .slice as46_3 s0.slast.length ds46_3, .slice as46_4 s0.floors.length ds46_4], .agg #[.slice as84_0 s0.now.length ds84_0, .slice as84_1 s0.sure.length ds84_1, .slice as84_2 s0.last.length ds84_2, .slice as84_3 s0.slast.length ds84_3, .slice as84_4 s0.floors.length ds84_4]] (by rfl) rfl rfl (by (try simp only [List.map_toArray, List.map_cons, List.map_nil]); first | done | rfl) ?_
  refine (eqStore_t (StR.toC (StR.below HRs46.out (below_step (below_step (below_step (below_step (below_step HB57.out HB59.out) HB68.out) HB79.out) HB81.out) HB87.out))) (StR.toC HRs84.out)).mono ?_
  rintro e W88 ⟨rfl, hb89⟩
  have HB90 := Aside0.mk hb89
  clear hb89
  refine ⟨_, rfl, ?_⟩
  refine hK.out _ _ ⟨(Bk.below BK55.out (below_step (below_step (below_step (below_step (below_step HB59.out HB68.out) HB79.out) HB81.out) HB87.out) HB90.out)), (Bk.below BK2.out (below_step (below_step (below_step (below_step (below_step (below_step (below_step (below_step (below_step (below_step (below_step (below_step HB7.out HB14.out) HB18.out) HB20.out) HB35.out) HB49.out) HB57.out) HB59.out) HB68.out) HB79.out) HB81.out) HB87.out) HB90.out))⟩ (fun hHeld => ?_)
  clear hHeld hK K
  refine norm_ (a' := ?_) ?_ ?_
  rotate_left
  · show Act.put _ (some 55) _ = _
    simp only [Act.put, List.setIfInBounds_toArray, List.set_cons_zero, List.set_cons_succ, i64_w, i32_w]
    rfl
  refine pure_ (i := 4) (N := some 56) (v := ?_) (a' := ?_) #[true, true, true, true, true] rfl rfl (by kernel_rfl) (fun _ _ _ h => h) (Or.inl ⟨by rfl, ?_⟩) ?_ ?_
  rotate_left
  · intro w'
    go_simp
    with_reducible rfl
  rotate_left
  · simp only [Act.put, List.setIfInBounds_toArray, List.set_cons_zero, List.set_cons_succ, i64_w, i32_w]
    rfl
  refine done_ (by kernel_rfl) ?_
  go_wp2_with (first | ((with_reducible refine gate_dst (N := 57) rfl ?_); refine ev_load rfl (N := 57) rfl rfl (g := g8) rfl (cs := #[.slice as46_0 s0.now.length ds46_0, .slice as46_1 s0.sure.length ds46_1, .slice as46_2 s0.last.length ds46_2, .slice as46_3 s0.slast.length ds46_3, .slice as46_4 s0.floors.length ds46_4]) (Bk.below BK55.out (below_step (below_step (below_step (below_step (below_step HB59.out HB68.out) HB79.out) HB81.out) HB87.out) HB90.out)) hu25 rfl (by kernel_rfl) ?_))
  obtain ⟨r91, hr91⟩ : ∃ r_ : Int, 1 + (stCount s0 : Int) = r_ := ⟨_, rfl⟩
  have hdr91 : decide (r91 < 0) = false := decide_eq_false (by omega)
  have HCr91 := Aside0.mk hr91
  clear hr91
  refine (markStore_q (w0 := w) (below_step (below_step (below_step (below_step (below_step (below_step (below_step (below_step (below_step (below_step (below_step (below_step (below_step HB3.out HB7.out) HB14.out) HB18.out) HB20.out) HB35.out) HB49.out) HB57.out) HB59.out) HB68.out) HB79.out) HB81.out) HB87.out) HB90.out) (StR.below HRs46.out (below_step (below_step (below_step (below_step (below_step (below_step HB57.out HB59.out) HB68.out) HB79.out) HB81.out) HB87.out) HB90.out)) (by have z0_ := HB3.out.size; have z1_ := HG4.out; have z2_ := BK2.out.lt; have z3_ := HB7.out.size; have z4_ := HG8.out; have z5_ := BK6.out.lt; have z6_ := HB14.out.size; have z7_ := HB18.out.size; have z8_ := HB20.out.size; have z9_ := HB35.out.size; have z10_ := L38.out; have z11_ := L39.out; have z12_ := G40.out; have z13_ := G41.out; have z14_ := PP42.out; have z15_ := HB49.out.size; have z16_ := HB57.out.size; have z17_ := HG53.out; have z18_ := BK55.out.lt; have z19_ := HB59.out.size; have z20_ := HB68.out.size; have z21_ := L71.out; have z22_ := L72.out; have z23_ := G73.out; have z24_ := G74.out; have z25_ := PP75.out; have z26_ := HB79.out.size; have z27_ := HB81.out.size; have z28_ := HB87.out.size; have z29_ := HB90.out.size; omega) HS11.out HCr91.out).mono ?_
  rintro e W94 ⟨rfl, hm92, hb95, hk93⟩
  have z0_ := HB3.out.size
  have z1_ := HG4.out
  have z2_ := BK2.out.lt
  have z3_ := HB7.out.size
  have z4_ := HG8.out
  have z5_ := BK6.out.lt
  have z6_ := HB14.out.size
  have z7_ := HB18.out.size
  have z8_ := HB20.out.size
  have z9_ := HB35.out.size
  have z10_ := L38.out
  have z11_ := L39.out
  have z12_ := G40.out
  have z13_ := G41.out
  have z14_ := PP42.out
  have z15_ := HB49.out.size
  have z16_ := HB57.out.size
  have z17_ := HG53.out
  have z18_ := BK55.out.lt
  have z19_ := HB59.out.size
  have z20_ := HB68.out.size
  have z21_ := L71.out
  have z22_ := L72.out
  have z23_ := G73.out
  have z24_ := G74.out
  have z25_ := PP75.out
  have z26_ := HB79.out.size
  have z27_ := HB81.out.size
  have z28_ := HB87.out.size
  have z29_ := HB90.out.size
  have HB97 := Aside0.mk (hb95)
  have HK98 := Aside0.mk (hk93)
  have F99 := Aside0.mk (StC.below HV0.out HB97.out)
  have F100 := Aside0.mk (Bk.kept (Bk.below BK2.out (below_step (below_step (below_step (below_step (below_step (below_step (below_step (below_step (below_step (below_step (below_step (below_step HB7.out HB14.out) HB18.out) HB20.out) HB35.out) HB49.out) HB57.out) HB59.out) HB68.out) HB79.out) HB81.out) HB87.out) HB90.out)) HK98.out (fun h_ => (by obtain ⟨h1_, h2_⟩ := h_; omega)))
  have F101 := Aside0.mk (Bk.kept (Bk.below BK6.out (below_step (below_step (below_step (below_step (below_step (below_step (below_step (below_step (below_step (below_step (below_step HB14.out HB18.out) HB20.out) HB35.out) HB49.out) HB57.out) HB59.out) HB68.out) HB79.out) HB81.out) HB87.out) HB90.out)) HK98.out (fun h_ => (by obtain ⟨h1_, h2_⟩ := h_; omega)))
  have F102 := Aside0.mk (StR.kept (StR.below HRs36.out (below_step (below_step (below_step (below_step (below_step (below_step (below_step HB49.out HB57.out) HB59.out) HB68.out) HB79.out) HB81.out) HB87.out) HB90.out)) HK98.out (fun k_ h_ => (by obtain ⟨h1_, h2_⟩ := h_; omega)))
  have F103 := Aside0.mk (Bk.kept (Bk.below BK37.out (below_step (below_step (below_step (below_step (below_step (below_step (below_step HB49.out HB57.out) HB59.out) HB68.out) HB79.out) HB81.out) HB87.out) HB90.out)) HK98.out (fun h_ => (by obtain ⟨h1_, h2_⟩ := h_; omega)))
  have F104 := Aside0.mk (hm92)
  have F105 := Aside0.mk (Bk.kept (Bk.below BK55.out (below_step (below_step (below_step (below_step (below_step HB59.out HB68.out) HB79.out) HB81.out) HB87.out) HB90.out)) HK98.out (fun h_ => (by obtain ⟨h1_, h2_⟩ := h_; omega)))
  have F106 := Aside0.mk (StR.kept (StR.below HRs69.out (below_step (below_step (below_step HB79.out HB81.out) HB87.out) HB90.out)) HK98.out (fun k_ h_ => (by obtain ⟨h1_, h2_⟩ := h_; omega)))
  have F107 := Aside0.mk (Bk.kept (Bk.below BK70.out (below_step (below_step (below_step HB79.out HB81.out) HB87.out) HB90.out)) HK98.out (fun h_ => (by obtain ⟨h1_, h2_⟩ := h_; omega)))
  have F108 := Aside0.mk (StR.kept (StR.below HRs84.out HB90.out) HK98.out (fun k_ h_ => (by obtain ⟨h1_, h2_⟩ := h_; omega)))
  clear z0_ z1_ z2_ z3_ z4_ z5_ z6_ z7_ z8_ z9_ z10_ z11_ z12_ z13_ z14_ z15_ z16_ z17_ z18_ z19_ z20_ z21_ z22_ z23_ z24_ z25_ z26_ z27_ z28_ z29_ hb95 hk93
  clear hm92
  go_wp2_with (first | ((with_reducible refine gate_dst (N := 63) rfl ?_); refine ev_load_on (by rfl) (N := 63) rfl rfl (g := gr10_7) rfl (cs := #[.slice as69_0 t.now.length ds69_0, .slice as69_1 t.sure.length ds69_1, .slice as69_2 t.last.length ds69_2, .slice as69_3 t.slast.length ds69_3, .slice as69_4 t.floors.length ds69_4]) F107.out hu25 rfl (by kernel_rfl) ?_) | ((with_reducible refine gate_dst (N := 64) rfl ?_); refine ev_load_on (by rfl) (N := 64) rfl rfl (g := gr8_8) rfl (cs := #[.slice as36_0 t.now.length ds36_0, .slice as36_1 t.sure.length ds36_1, .slice as36_2 t.last.length ds36_2, .slice as36_3 t.slast.length ds36_3, .slice as36_4 t.floors.length ds36_4]) F103.out hu25 rfl (by kernel_rfl) ?_))
  refine (eqStore_t (StR.toC F106.out) (StR.toC F102.out)).mono ?_
  rintro e W109 ⟨rfl, hb110⟩
  have HB111 := Aside0.mk hb110
  clear hb110
  go_wp2_with (first | ((with_reducible refine gate_dst (N := 73) rfl ?_); refine ev_load rfl (N := 73) rfl rfl (g := gr10_7) rfl (cs := #[.slice as69_0 t.now.length ds69_0, .slice as69_1 t.sure.length ds69_1, .slice as69_2 t.last.length ds69_2, .slice as69_3 t.slast.length ds69_3, .slice as69_4 t.floors.length ds69_4]) (Bk.below F107.out HB111.out) hu25 rfl (by kernel_rfl) ?_))
  obtain ⟨r112, hr112⟩ : ∃ r_ : Int, 1 + (stCount t : Int) = r_ := ⟨_, rfl⟩
  have hdr112 : decide (r112 < 0) = false := decide_eq_false (by omega)
  have HCr112 := Aside0.mk hr112
  clear hr112
  refine (markStore_q (w0 := w) (below_step HB97.out HB111.out) (StR.below F106.out HB111.out) (by have z0_ := HB3.out.size; have z1_ := HG4.out; have z2_ := BK2.out.lt; have z3_ := HB7.out.size; have z4_ := HG8.out; have z5_ := BK6.out.lt; have z6_ := HB14.out.size; have z7_ := HB18.out.size; have z8_ := HB20.out.size; have z9_ := HB35.out.size; have z10_ := L38.out; have z11_ := L39.out; have z12_ := G40.out; have z13_ := G41.out; have z14_ := PP42.out; have z15_ := HB49.out.size; have z16_ := HB57.out.size; have z17_ := HG53.out; have z18_ := BK55.out.lt; have z19_ := HB59.out.size; have z20_ := HB68.out.size; have z21_ := L71.out; have z22_ := L72.out; have z23_ := G73.out; have z24_ := G74.out; have z25_ := PP75.out; have z26_ := HB79.out.size; have z27_ := HB81.out.size; have z28_ := HB87.out.size; have z29_ := HB90.out.size; have z30_ := HB97.out.size; have z31_ := HK98.out.1; have z32_ := HB111.out.size; omega) (storeDo_small HT.out HS11.out) HCr112.out).mono ?_
  rintro e W115 ⟨rfl, hm113, hb116, hk114⟩
  have z0_ := HB3.out.size
  have z1_ := HG4.out
  have z2_ := BK2.out.lt
  have z3_ := HB7.out.size
  have z4_ := HG8.out
  have z5_ := BK6.out.lt
  have z6_ := HB14.out.size
  have z7_ := HB18.out.size
  have z8_ := HB20.out.size
  have z9_ := HB35.out.size
  have z10_ := L38.out
  have z11_ := L39.out
  have z12_ := G40.out
  have z13_ := G41.out
  have z14_ := PP42.out
  have z15_ := HB49.out.size
  have z16_ := HB57.out.size
  have z17_ := HG53.out
  have z18_ := BK55.out.lt
  have z19_ := HB59.out.size
  have z20_ := HB68.out.size
  have z21_ := L71.out
  have z22_ := L72.out
  have z23_ := G73.out
  have z24_ := G74.out
  have z25_ := PP75.out
  have z26_ := HB79.out.size
  have z27_ := HB81.out.size
  have z28_ := HB87.out.size
  have z29_ := HB90.out.size
  have z30_ := HB97.out.size
  have z31_ := HK98.out.1
  have z32_ := HB111.out.size
  have HB118 := Aside0.mk (hb116)
  have HK119 := Aside0.mk (hk114)
  have F120 := Aside0.mk (StC.below HV0.out HB118.out)
  have F121 := Aside0.mk (Bk.kept (Bk.below F100.out HB111.out) HK119.out (fun h_ => (by obtain ⟨h1_, h2_⟩ := h_; omega)))
  have F122 := Aside0.mk (Bk.kept (Bk.below F101.out HB111.out) HK119.out (fun h_ => (by obtain ⟨h1_, h2_⟩ := h_; omega)))
  have F123 := Aside0.mk (StR.kept (StR.below F102.out HB111.out) HK119.out (fun k_ h_ => (by obtain ⟨h1_, h2_⟩ := h_; omega)))
  have F124 := Aside0.mk (Bk.kept (Bk.below F103.out HB111.out) HK119.out (fun h_ => (by obtain ⟨h1_, h2_⟩ := h_; omega)))
  have F125 := Aside0.mk (StR.kept (StR.below F104.out HB111.out) HK119.out (fun k_ h_ => (by obtain ⟨h1_, h2_⟩ := h_; omega)))
  have F126 := Aside0.mk (Bk.kept (Bk.below F105.out HB111.out) HK119.out (fun h_ => (by obtain ⟨h1_, h2_⟩ := h_; omega)))
  have F127 := Aside0.mk (hm113)
  have F128 := Aside0.mk (Bk.kept (Bk.below F107.out HB111.out) HK119.out (fun h_ => (by obtain ⟨h1_, h2_⟩ := h_; omega)))
  have F129 := Aside0.mk (StR.kept (StR.below F108.out HB111.out) HK119.out (fun k_ h_ => (by obtain ⟨h1_, h2_⟩ := h_; omega)))
  clear z0_ z1_ z2_ z3_ z4_ z5_ z6_ z7_ z8_ z9_ z10_ z11_ z12_ z13_ z14_ z15_ z16_ z17_ z18_ z19_ z20_ z21_ z22_ z23_ z24_ z25_ z26_ z27_ z28_ z29_ z30_ z31_ z32_ hb116 hk114
  clear hm113
  go_wp2_with (first | ((with_reducible refine gate_dst (N := 76) rfl ?_); refine ev_load rfl (N := 76) rfl rfl (g := gr10_7) rfl (cs := #[.slice as69_0 t.now.length ds69_0, .slice as69_1 t.sure.length ds69_1, .slice as69_2 t.last.length ds69_2, .slice as69_3 t.slast.length ds69_3, .slice as69_4 t.floors.length ds69_4]) F128.out hu25 rfl (by kernel_rfl) ?_))
  refine (heldStore_q (StR.toC F127.out) (storeDo_small HT.out HS11.out) HCr112.out).mono ?_
  rintro e W130 ⟨rfl, hb131⟩
  have HB132 := Aside0.mk hb131
  clear hb131
  go_wp2_with (fail)
  refine start_ (n := 11) (S := fun w' => True) (ds := []) #[false, false, false, false, false, false, false, false, false, false, false] (by kernel_rfl) rfl rfl trivial (fun hHeld => ?_)
  clear hHeld
  refine with_tabW FnExactStoreDo_r27.tab FnExactStoreDo_r27.bits (fun HT_ HW_ => ?_)
  refine world_at (w := W130) (below_drew0 _) (fun W133 HB134 => ?_)
  refine inv_at [0, 1, 2, 3, 4, 5, 6, 7, 8, 9, 10] (fun a0_ b a w' => ∃ (v_1 : Value) (v_4 : Value) (l_1 : Nat) (h_1 : Nat) (l_4 : Nat) (h_4 : Nat) (gr27_8 : Nat) (m_5 : Value) (m_6 : Value), a = putSel a0_ b [(0, 85, .agg #[.slice A0_0 s0.now.length c0_0, .slice A0_1 s0.sure.length c0_1, .slice A0_2 s0.last.length c0_2, .slice A0_3 s0.slast.length c0_3, .slice A0_4 s0.floors.length c0_4]), (1, 86, v_1), (2, 87, .agg #[.int .i64 who, .int .i64 ep, .int .i64 num, .int .i64 obj, .int .i64 at_, .string data]), (3, 88, .agg #[.int .i64 who, .int .i64 ep, .int .i64 num, .int .i64 obj, .int .i64 at_, .string data]), (4, 89, .tuple #[v_4, .int .i64 c]), (5, 84, m_5), (6, 90, m_6), (7, 91, .int .i64 c), (8, 14, .pointer (some ⟨gr27_8, 0, none⟩)), (10, 15, .int .i64 c)] ∧ Below W133.heap.size W133 w' ∧ (b 1 = true → StR w' l_1 h_1 v_1 (s0) ∧ W133.heap.size ≤ l_1 ∧ h_1 ≤ w'.heap.size) ∧ (b 4 = true → StR w' l_4 h_4 v_4 (t) ∧ W133.heap.size ≤ l_4 ∧ h_4 ≤ w'.heap.size) ∧ (b 8 = true → W133.heap.size ≤ gr27_8 ∧ gr27_8 < w'.heap.size ∧ (b 9 = false → Bk w' gr27_8 #[.slice none 0 0, .slice none 0 0, .slice none 0 0, .slice none 0 0, .slice none 0 0] 25)) ∧ (b 9 = true → ∃ cs_, v_4 = .agg cs_ ∧ Bk w' gr27_8 cs_ 25) ∧ (b 1 = true → b 8 = true → gr27_8 < l_1 ∨ h_1 ≤ gr27_8) ∧ (b 4 = true → b 8 = true → gr27_8 < l_4 ∨ h_4 ≤ gr27_8) ∧ (b 5 = true → m_5 = .tuple #[v_4, .int .i64 c]) ∧ (b 6 = true → m_6 = v_4)) HT_.out HW_.out (by kernel_rfl) (by kernel_rfl) ?_ ?_ ?_
  · exact ⟨.bool false, .bool false, 0, 0, 0, 0, 0, .bool false, .bool false, by simp only [putSel, Bool.false_eq_true, if_false], Below.refl _ _, fun h_ => absurd h_ (by decide), fun h_ => absurd h_ (by decide), fun h_ => absurd h_ (by decide), fun h_ => absurd h_ (by decide), fun h_ => absurd h_ (by decide), fun h_ => absurd h_ (by decide), fun h_ => absurd h_ (by decide), fun h_ => absurd h_ (by decide)⟩
  · refine steps_cons ?_ ?_
    · rintro b a w' ⟨v_1, v_4, l_1, h_1, l_4, h_4, gr27_8, m_5, m_6, ha, HQ, CQ1, CQ4, AQ8, SQ8, PQ1_8, PQ4_8, MQ5, MQ6⟩ hb_ hon hoff
      refine ⟨_, rfl, fun K hK => ?_⟩
      have e2 : a.tmps[2]? = some (.pointer (some ⟨g2, 0, none⟩)) := by rw [ha]; exact (putSel_off rfl).trans rfl
      have HQ_ := Aside0.mk HQ
      refine value_ (w1 := w') (v := .agg #[.slice A0_0 s0.now.length c0_0, .slice A0_1 s0.sure.length c0_1, .slice A0_2 s0.last.length c0_2, .slice A0_3 s0.slast.length c0_3, .slice A0_4 s0.floors.length c0_4]) (by rfl) rfl ?_ ?_
      · exact run_load_ev rfl (eval_of e2) (Bk.below F121.out (below_step (below_step HB132.out HB134.out) HQ_.out)) hu30 rfl (by kernel_rfl)
      refine hK.out _ _ ⟨v_1, v_4, l_1, h_1, l_4, h_4, gr27_8, m_5, m_6, (by rw [ha]; exact putSel_upk 0 hb_ rfl rfl rfl), HQ, CQ1, CQ4, AQ8, SQ8, PQ1_8, PQ4_8, MQ5, MQ6⟩
    refine steps_cons ?_ ?_
    · rintro b a w' ⟨v_1, v_4, l_1, h_1, l_4, h_4, gr27_8, m_5, m_6, ha, HQ, CQ1, CQ4, AQ8, SQ8, PQ1_8, PQ4_8, MQ5, MQ6⟩ hb_ hon hoff
      refine ⟨_, rfl, fun K hK => ?_⟩
      have e85 : a.tmps[85]? = some (.agg #[.slice A0_0 s0.now.length c0_0, .slice A0_1 s0.sure.length c0_1, .slice A0_2 s0.last.length c0_2, .slice A0_3 s0.slast.length c0_3, .slice A0_4 s0.floors.length c0_4]) := by rw [ha]; exact putSel_on (e := (0, 85, .agg #[.slice A0_0 s0.now.length c0_0, .slice A0_1 s0.sure.length c0_1, .slice A0_2 s0.last.length c0_2, .slice A0_3 s0.slast.length c0_3, .slice A0_4 s0.floors.length c0_4])) 0 rfl rfl (hon 0 (by kernel_rfl)) rfl
      have HQ_ := Aside0.mk HQ
      refine goes_ Try.func19 (by kernel_rfl) rfl #[.agg #[.slice A0_0 s0.now.length c0_0, .slice A0_1 s0.sure.length c0_1, .slice A0_2 s0.last.length c0_2, .slice A0_3 s0.slast.length c0_3, .slice A0_4 s0.floors.length c0_4]] (by rfl) rfl rfl (by simp only [List.map_toArray, List.map_cons, List.map_nil, eval_of e85]) ?_
      refine (toStore_c (StC.below F120.out (below_step (below_step HB132.out HB134.out) HQ_.out)) HS11.out).mono ?_
      rintro e_ w5 ⟨u142, rfl, hr143, hb⟩
      refine ⟨_, rfl, ?_⟩
      refine hK.out _ _ ⟨u142, v_4, w'.heap.size, w5.heap.size, l_4, h_4, gr27_8, m_5, m_6, (by rw [ha]; exact putSel_upk 1 hb_ rfl rfl rfl), below_step HQ hb, fun _ => ⟨hr143, (show W133.heap.size ≤ w'.heap.size from HQ.size), Nat.le_refl _⟩, fun h_ => ⟨StR.below (CQ4 h_).1 hb, (CQ4 h_).2.1, Nat.le_trans (CQ4 h_).2.2 (hb).size⟩, fun h_ => ⟨(AQ8 h_).1, Nat.lt_of_lt_of_le (AQ8 h_).2.1 (hb).size, fun h2_ => Bk.below ((AQ8 h_).2.2 h2_) hb⟩, fun h_ => (SQ8 h_).imp fun cs_ x_ => ⟨x_.1, Bk.below x_.2 hb⟩, fun _ h2_ => Or.inl (AQ8 h2_).2.1, PQ4_8, MQ5, MQ6⟩
    refine steps_cons ?_ ?_
    · rintro b a w' ⟨v_1, v_4, l_1, h_1, l_4, h_4, gr27_8, m_5, m_6, ha, HQ, CQ1, CQ4, AQ8, SQ8, PQ1_8, PQ4_8, MQ5, MQ6⟩ hb_ hon hoff
      refine ⟨_, rfl, fun K hK => ?_⟩
      have e3 : a.tmps[3]? = some (.pointer (some ⟨g3, 0, none⟩)) := by rw [ha]; exact (putSel_off rfl).trans rfl
      have HQ_ := Aside0.mk HQ
      refine value_ (w1 := w') (v := .agg #[.int .i64 who, .int .i64 ep, .int .i64 num, .int .i64 obj, .int .i64 at_, .string data]) (by rfl) rfl ?_ ?_
      · exact run_load_ev rfl (eval_of e3) (Bk.below F122.out (below_step (below_step HB132.out HB134.out) HQ_.out)) hu59 rfl (by kernel_rfl)
      refine hK.out _ _ ⟨v_1, v_4, l_1, h_1, l_4, h_4, gr27_8, m_5, m_6, (by rw [ha]; exact putSel_upk 2 hb_ rfl rfl rfl), HQ, CQ1, CQ4, AQ8, SQ8, PQ1_8, PQ4_8, MQ5, MQ6⟩
    refine steps_cons ?_ ?_
    · rintro b a w' ⟨v_1, v_4, l_1, h_1, l_4, h_4, gr27_8, m_5, m_6, ha, HQ, CQ1, CQ4, AQ8, SQ8, PQ1_8, PQ4_8, MQ5, MQ6⟩ hb_ hon hoff
      refine ⟨_, rfl, fun K hK => ?_⟩
      have e87 : a.tmps[87]? = some (.agg #[.int .i64 who, .int .i64 ep, .int .i64 num, .int .i64 obj, .int .i64 at_, .string data]) := by rw [ha]; exact putSel_on (e := (2, 87, .agg #[.int .i64 who, .int .i64 ep, .int .i64 num, .int .i64 obj, .int .i64 at_, .string data])) 2 rfl rfl (hon 2 (by kernel_rfl)) rfl
      have HQ_ := Aside0.mk HQ
      refine goes_ Try.func43 (by kernel_rfl) rfl #[.agg #[.int .i64 who, .int .i64 ep, .int .i64 num, .int .i64 obj, .int .i64 at_, .string data]] (by rfl) rfl rfl (by simp only [List.map_toArray, List.map_cons, List.map_nil, eval_of e87]) ?_
      refine (toReq_c who ep num obj at_ data).mono ?_
      rintro e_ w5 ⟨rfl, hb⟩
      refine ⟨_, rfl, ?_⟩
      refine hK.out _ _ ⟨v_1, v_4, l_1, h_1, l_4, h_4, gr27_8, m_5, m_6, (by rw [ha]; exact putSel_upk 3 hb_ rfl rfl rfl), below_step HQ hb, fun h_ => ⟨StR.below (CQ1 h_).1 hb, (CQ1 h_).2.1, Nat.le_trans (CQ1 h_).2.2 (hb).size⟩, fun h_ => ⟨StR.below (CQ4 h_).1 hb, (CQ4 h_).2.1, Nat.le_trans (CQ4 h_).2.2 (hb).size⟩, fun h_ => ⟨(AQ8 h_).1, Nat.lt_of_lt_of_le (AQ8 h_).2.1 (hb).size, fun h2_ => Bk.below ((AQ8 h_).2.2 h2_) hb⟩, fun h_ => (SQ8 h_).imp fun cs_ x_ => ⟨x_.1, Bk.below x_.2 hb⟩, PQ1_8, PQ4_8, MQ5, MQ6⟩
    refine steps_cons ?_ ?_
    · rintro b a w' ⟨v_1, v_4, l_1, h_1, l_4, h_4, gr27_8, m_5, m_6, ha, HQ, CQ1, CQ4, AQ8, SQ8, PQ1_8, PQ4_8, MQ5, MQ6⟩ hb_ hon hoff
      refine ⟨_, rfl, fun K hK => ?_⟩
      have e86 : a.tmps[86]? = some (v_1) := by rw [ha]; exact putSel_on (e := (1, 86, v_1)) 1 rfl rfl (hon 1 (by kernel_rfl)) rfl
      have e88 : a.tmps[88]? = some (.agg #[.int .i64 who, .int .i64 ep, .int .i64 num, .int .i64 obj, .int .i64 at_, .string data]) := by rw [ha]; exact putSel_on (e := (3, 88, .agg #[.int .i64 who, .int .i64 ep, .int .i64 num, .int .i64 obj, .int .i64 at_, .string data])) 3 rfl rfl (hon 3 (by kernel_rfl)) rfl
      have HQ_ := Aside0.mk HQ
      have FQ1 := Aside0.mk (CQ1 (hon 1 (by kernel_rfl))).1
      refine goes_ Try.func44 (by kernel_rfl) rfl #[v_1, .agg #[.int .i64 who, .int .i64 ep, .int .i64 num, .int .i64 obj, .int .i64 at_, .string data]] (by rfl) rfl rfl (by simp only [List.map_toArray, List.map_cons, List.map_nil, eval_of e86, eval_of e88]) ?_
      refine (impl_StoreDo_c (StR.toC FQ1.out) HZ0.out HS11.out HD.out HT.out).mono ?_
      rintro e_ w5 ⟨u145, rfl, hr146, hb⟩
      refine ⟨_, rfl, ?_⟩
      refine hK.out _ _ ⟨v_1, u145, l_1, h_1, w'.heap.size, w5.heap.size, gr27_8, m_5, m_6, (by rw [ha]; exact putSel_upk 4 hb_ rfl rfl rfl), below_step HQ hb, fun h_ => ⟨StR.below (CQ1 h_).1 hb, (CQ1 h_).2.1, Nat.le_trans (CQ1 h_).2.2 (hb).size⟩, fun _ => ⟨hr146, (show W133.heap.size ≤ w'.heap.size from HQ.size), Nat.le_refl _⟩, fun h_ => ⟨(AQ8 h_).1, Nat.lt_of_lt_of_le (AQ8 h_).2.1 (hb).size, fun h2_ => Bk.below ((AQ8 h_).2.2 h2_) hb⟩, fun h_ => absurd ((show b 9 = true from h_).symm.trans (hoff 9 (by kernel_rfl))) (by decide), PQ1_8, fun _ h2_ => Or.inl (AQ8 h2_).2.1, fun h_ => absurd ((show b 5 = true from h_).symm.trans (hoff 5 (by kernel_rfl))) (by decide), fun h_ => absurd ((show b 6 = true from h_).symm.trans (hoff 6 (by kernel_rfl))) (by decide)⟩
    refine steps_cons ?_ ?_
    · rintro b a w' ⟨v_1, v_4, l_1, h_1, l_4, h_4, gr27_8, m_5, m_6, ha, HQ, CQ1, CQ4, AQ8, SQ8, PQ1_8, PQ4_8, MQ5, MQ6⟩ hb_ hon hoff
      refine ⟨_, rfl, fun K hK => ?_⟩
      have e89 : a.tmps[89]? = some (.tuple #[v_4, .int .i64 c]) := by rw [ha]; exact putSel_on (e := (4, 89, .tuple #[v_4, .int .i64 c])) 4 rfl rfl (hon 4 (by kernel_rfl)) rfl
      have HQ_ := Aside0.mk HQ
      refine value_ (w1 := w') (v := .tuple #[v_4, .int .i64 c]) (by rfl) rfl ?_ ?_
      · clear ha HQ hon hoff hb_ CQ1 CQ4 AQ8 SQ8 PQ1_8 PQ4_8 MQ5 MQ6
        first | (go_simp; done) | (go_simp; rfl)
      refine hK.out _ _ ⟨v_1, v_4, l_1, h_1, l_4, h_4, gr27_8, .tuple #[v_4, .int .i64 c], m_6, (by rw [ha]; exact putSel_upk 5 hb_ rfl rfl rfl), HQ, CQ1, CQ4, AQ8, SQ8, PQ1_8, PQ4_8, fun _ => rfl, MQ6⟩
    refine steps_cons ?_ ?_
    · rintro b a w' ⟨v_1, v_4, l_1, h_1, l_4, h_4, gr27_8, m_5, m_6, ha, HQ, CQ1, CQ4, AQ8, SQ8, PQ1_8, PQ4_8, MQ5, MQ6⟩ hb_ hon hoff
      refine ⟨_, rfl, fun K hK => ?_⟩
      have e84 : a.tmps[84]? = some (m_5) := by rw [ha]; exact putSel_on (e := (5, 84, m_5)) 5 rfl rfl (hon 5 (by kernel_rfl)) rfl
      rw [MQ5 (hon 5 (by kernel_rfl))] at e84
      have HQ_ := Aside0.mk HQ
      refine value_ (w1 := w') (v := v_4) (by rfl) rfl ?_ ?_
      · clear ha HQ hon hoff hb_ CQ1 CQ4 AQ8 SQ8 PQ1_8 PQ4_8 MQ5 MQ6
        first | (go_simp; done) | (go_simp; rfl)
      refine hK.out _ _ ⟨v_1, v_4, l_1, h_1, l_4, h_4, gr27_8, m_5, v_4, (by rw [ha]; exact putSel_upk 6 hb_ rfl rfl rfl), HQ, CQ1, CQ4, AQ8, SQ8, PQ1_8, PQ4_8, MQ5, fun _ => rfl⟩
    refine steps_cons ?_ ?_
    · rintro b a w' ⟨v_1, v_4, l_1, h_1, l_4, h_4, gr27_8, m_5, m_6, ha, HQ, CQ1, CQ4, AQ8, SQ8, PQ1_8, PQ4_8, MQ5, MQ6⟩ hb_ hon hoff
      refine ⟨_, rfl, fun K hK => ?_⟩
      have e84 : a.tmps[84]? = some (m_5) := by rw [ha]; exact putSel_on (e := (5, 84, m_5)) 5 rfl rfl (hon 5 (by kernel_rfl)) rfl
      rw [MQ5 (hon 5 (by kernel_rfl))] at e84
      have HQ_ := Aside0.mk HQ
      refine value_ (w1 := w') (v := .int .i64 c) (by rfl) rfl ?_ ?_
      · clear ha HQ hon hoff hb_ CQ1 CQ4 AQ8 SQ8 PQ1_8 PQ4_8 MQ5 MQ6
        first | (go_simp; done) | (go_simp; rfl)
      refine hK.out _ _ ⟨v_1, v_4, l_1, h_1, l_4, h_4, gr27_8, m_5, m_6, (by rw [ha]; exact putSel_upk 7 hb_ rfl rfl rfl), HQ, CQ1, CQ4, AQ8, SQ8, PQ1_8, PQ4_8, MQ5, MQ6⟩
    refine steps_cons ?_ ?_
    · rintro b a w' ⟨v_1, v_4, l_1, h_1, l_4, h_4, gr27_8, m_5, m_6, ha, HQ, CQ1, CQ4, AQ8, SQ8, PQ1_8, PQ4_8, MQ5, MQ6⟩ hb_ hon hoff
      refine ⟨_, rfl, fun K hK => ?_⟩
      have HQ_ := Aside0.mk HQ
      have hb : Below w'.heap.size w' (w'.alloc (.cells #[.slice none 0 0, .slice none 0 0, .slice none 0 0, .slice none 0 0, .slice none 0 0] 25 (0, 0))) := below_alloc (Below.refl _ _) _
      have hbk : Bk (w'.alloc (.cells #[.slice none 0 0, .slice none 0 0, .slice none 0 0, .slice none 0 0, .slice none 0 0] 25 (0, 0))) w'.heap.size #[.slice none 0 0, .slice none 0 0, .slice none 0 0, .slice none 0 0, .slice none 0 0] 25 := heap_alloc_new _ _
      have hsz : (w'.alloc (.cells #[.slice none 0 0, .slice none 0 0, .slice none 0 0, .slice none 0 0, .slice none 0 0] 25 (0, 0))).heap.size = w'.heap.size + 1 := (show (Array.push w'.heap _).size = w'.heap.size + 1 from Array.size_push _)
      refine value_ (w1 := (w'.alloc (.cells #[.slice none 0 0, .slice none 0 0, .slice none 0 0, .slice none 0 0, .slice none 0 0] 25 (0, 0)))) (v := .pointer (some ⟨w'.heap.size, 0, none⟩)) (by rfl) rfl ?_ ?_
      · clear ha hb hbk hsz HQ hon hoff hb_ CQ1 CQ4 AQ8 SQ8 PQ1_8 PQ4_8 MQ5 MQ6
        first | (go_simp; done) | (go_simp; rfl)
      refine hK.out _ _ ⟨v_1, v_4, l_1, h_1, l_4, h_4, w'.heap.size, m_5, m_6, (by rw [ha]; exact putSel_upk 8 hb_ rfl rfl rfl), below_step HQ hb, fun h_ => ⟨StR.below (CQ1 h_).1 hb, (CQ1 h_).2.1, Nat.le_trans (CQ1 h_).2.2 (hb).size⟩, fun h_ => ⟨StR.below (CQ4 h_).1 hb, (CQ4 h_).2.1, Nat.le_trans (CQ4 h_).2.2 (hb).size⟩, fun _ => ⟨HQ.size, by rw [hsz]; omega, fun _ => hbk⟩, fun h_ => absurd ((show b 9 = true from h_).symm.trans (hoff 9 (by kernel_rfl))) (by decide), fun h_ _ => Or.inr (CQ1 h_).2.2, fun h_ _ => Or.inr (CQ4 h_).2.2, MQ5, MQ6⟩
    refine steps_cons ?_ ?_
    · rintro b a w' ⟨v_1, v_4, l_1, h_1, l_4, h_4, gr27_8, m_5, m_6, ha, HQ, CQ1, CQ4, AQ8, SQ8, PQ1_8, PQ4_8, MQ5, MQ6⟩ hb_ hon hoff
      refine ⟨_, rfl, fun K hK => ?_⟩
      have e14 : a.tmps[14]? = some (.pointer (some ⟨gr27_8, 0, none⟩)) := by rw [ha]; exact putSel_on (e := (8, 14, .pointer (some ⟨gr27_8, 0, none⟩))) 8 rfl rfl (hon 8 (by kernel_rfl)) rfl
      have e90 : a.tmps[90]? = some (m_6) := by rw [ha]; exact putSel_on (e := (6, 90, m_6)) 6 rfl rfl (hon 6 (by kernel_rfl)) rfl
      rw [MQ6 (hon 6 (by kernel_rfl))] at e90
      have HQ_ := Aside0.mk HQ
      have HA_ := AQ8 (hon 8 (by kernel_rfl))
      have HC_ := (CQ4 (hon 4 (by kernel_rfl))).1
      obtain ⟨x0_, x1_, x2_, x3_, x4_, ev_, o0_, o1_, o2_, o3_, o4_⟩ := HC_.toC.shape
      have e90' := e90
      rw [ev_] at e90'
      refine wp_storeRow_step (by rfl) rfl rfl (eval_of e14) (eval_of e90') (HA_.2.2 hb_) (by kernel_rfl) rfl (by simp [o0_, o1_, o2_, o3_, o4_]) ?_
      intro w5 hk5 hg5
      refine hK.out _ _ ⟨v_1, v_4, l_1, h_1, l_4, h_4, gr27_8, m_5, m_6, (by rw [ha]; exact putSel_none (v := undef) rfl), below_row HQ hg5 HA_.1, fun h_ => ⟨StR.kept (CQ1 h_).1 (kept_row hg5) (fun k_ hk_ => by have := PQ1_8 h_ (hon 8 (by kernel_rfl)); obtain ⟨h1_, h2_⟩ := hk_; omega), (CQ1 h_).2.1, by rw [hg5.2.1]; exact (CQ1 h_).2.2⟩, fun h_ => ⟨StR.kept (CQ4 h_).1 (kept_row hg5) (fun k_ hk_ => by have := PQ4_8 h_ (hon 8 (by kernel_rfl)); obtain ⟨h1_, h2_⟩ := hk_; omega), (CQ4 h_).2.1, by rw [hg5.2.1]; exact (CQ4 h_).2.2⟩, fun h_ => ⟨(AQ8 h_).1, by rw [hg5.2.1]; exact (AQ8 h_).2.1, fun h2_ => absurd h2_ (by rw [up_self]; decide)⟩, fun _ => ⟨_, ev_, hk5⟩, PQ1_8, PQ4_8, MQ5, MQ6⟩
    refine steps_cons ?_ ?_
    · rintro b a w' ⟨v_1, v_4, l_1, h_1, l_4, h_4, gr27_8, m_5, m_6, ha, HQ, CQ1, CQ4, AQ8, SQ8, PQ1_8, PQ4_8, MQ5, MQ6⟩ hb_ hon hoff
      refine ⟨_, rfl, fun K hK => ?_⟩
      have e91 : a.tmps[91]? = some (.int .i64 c) := by rw [ha]; exact putSel_on (e := (7, 91, .int .i64 c)) 7 rfl rfl (hon 7 (by kernel_rfl)) rfl
      have HQ_ := Aside0.mk HQ
      refine value_ (w1 := w') (v := .int .i64 c) (by rfl) rfl ?_ ?_
      · clear ha HQ hon hoff hb_ CQ1 CQ4 AQ8 SQ8 PQ1_8 PQ4_8 MQ5 MQ6
        first | (go_simp; done) | (go_simp; rfl)
      refine hK.out _ _ ⟨v_1, v_4, l_1, h_1, l_4, h_4, gr27_8, m_5, m_6, (by rw [ha]; exact putSel_upk 9 hb_ rfl rfl rfl), HQ, CQ1, CQ4, AQ8, SQ8, PQ1_8, PQ4_8, MQ5, MQ6⟩
    exact steps_nil
  rintro b a W148 hall ⟨v_1, v_4, l_1, h_1, l_4, h_4, gr27_8, m_5, m_6, ha, HQ, CQ1, CQ4, AQ8, SQ8, PQ1_8, PQ4_8, MQ5, MQ6⟩
  have hb0_ := hall 0 (by kernel_rfl)
  have hb1_ := hall 1 (by kernel_rfl)
  have hb2_ := hall 2 (by kernel_rfl)
  have hb3_ := hall 3 (by kernel_rfl)
  have hb4_ := hall 4 (by kernel_rfl)
  have hb5_ := hall 5 (by kernel_rfl)
  have hb6_ := hall 6 (by kernel_rfl)
  have hb7_ := hall 7 (by kernel_rfl)
  have hb8_ := hall 8 (by kernel_rfl)
  have hb9_ := hall 9 (by kernel_rfl)
  have hb10_ := hall 10 (by kernel_rfl)
  obtain rfl := MQ5 hb5_
  obtain rfl := MQ6 hb6_
  subst ha
  simp only [putSel, hb0_, hb1_, hb2_, hb3_, hb4_, hb5_, hb6_, hb7_, hb8_, hb9_, hb10_, if_true, Act.put, List.setIfInBounds_toArray, List.set_cons_zero, List.set_cons_succ]
  have HB149 := Aside0.mk HQ
  obtain ⟨cs_, rfl, hbk_⟩ := SQ8 hb9_
  obtain ⟨hr_, hl_, hh_⟩ := CQ4 hb4_
  obtain ⟨hg1_, hg2_, _⟩ := AQ8 hb8_
  have PP156 := Aside0.mk (PQ4_8 hb4_ hb8_)
  have HRs150 := Aside0.mk hr_
  obtain ⟨as150_0, ds150_0, as150_1, ds150_1, as150_2, ds150_2, as150_3, ds150_3, as150_4, ds150_4, ev_, _⟩ := hr_.toC
  injection ev_ with ev_
  subst ev_
  have BK151 := Aside0.mk hbk_
  have L152 := Aside0.mk hl_
  have L153 := Aside0.mk hh_
  have G154 := Aside0.mk hg1_
  have G155 := Aside0.mk hg2_
  clear hbk_ hl_ hh_ hg1_ hg2_ hr_
  clear HQ CQ1 CQ4 AQ8 SQ8 PQ1_8 PQ4_8 hall hb0_ hb1_ hb2_ hb3_ hb4_ hb5_ hb6_ hb7_ hb8_ hb9_ hb10_
  clear HT_ HW_
  go_wp2_with (first | ((with_reducible refine gate_dst (N := 92) rfl ?_); refine ev_load rfl (N := 92) rfl rfl (g := gr27_8) rfl (cs := #[.slice as150_0 t.now.length ds150_0, .slice as150_1 t.sure.length ds150_1, .slice as150_2 t.last.length ds150_2, .slice as150_3 t.slast.length ds150_3, .slice as150_4 t.floors.length ds150_4]) BK151.out hu25 rfl (by kernel_rfl) ?_) | ((with_reducible refine gate_dst (N := 93) rfl ?_); refine ev_load rfl (N := 93) rfl rfl (g := gr8_8) rfl (cs := #[.slice as36_0 t.now.length ds36_0, .slice as36_1 t.sure.length ds36_1, .slice as36_2 t.last.length ds36_2, .slice as36_3 t.slast.length ds36_3, .slice as36_4 t.floors.length ds36_4]) (Bk.below F124.out (below_step (below_step HB132.out HB134.out) HB149.out)) hu25 rfl (by kernel_rfl) ?_))
  refine (eqStore_t (StR.toC HRs150.out) (StR.toC (StR.below F123.out (below_step (below_step HB132.out HB134.out) HB149.out)))).mono ?_
  rintro e W158 ⟨rfl, hb159⟩
  have HB160 := Aside0.mk hb159
  clear hb159
  go_wp2_with (first | ((with_reducible refine gate_dst (N := 101) rfl ?_); refine ev_load rfl (N := 101) rfl rfl (g := gr10_7) rfl (cs := #[.slice as69_0 t.now.length ds69_0, .slice as69_1 t.sure.length ds69_1, .slice as69_2 t.last.length ds69_2, .slice as69_3 t.slast.length ds69_3, .slice as69_4 t.floors.length ds69_4]) (Bk.below F128.out (below_step (below_step (below_step HB132.out HB134.out) HB149.out) HB160.out)) hu25 rfl (by kernel_rfl) ?_))
  refine (heldStore_q (StR.toC (StR.below F127.out (below_step (below_step (below_step HB132.out HB134.out) HB149.out) HB160.out))) (storeDo_small HT.out HS11.out) HCr112.out).mono ?_
  rintro e W161 ⟨rfl, hb162⟩
  have HB163 := Aside0.mk hb162
  clear hb162
  go_wp2_with (fail)
  go_ret
  exact ⟨rfl, (below_step HB118.out (below_step (below_step (below_step (below_step HB132.out HB134.out) HB149.out) HB160.out) HB163.out))⟩
end Go.Proofs.Ytolmblfffnnabaa.P

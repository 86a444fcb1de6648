/- Part 3 of the proof of FnExactStoreDo: words, contracts of callees, plain lemmas. -/
import Derived.Test.YtolmblfffnnabaaZStoreDo2
namespace Go.Proofs.Ytolmblfffnnabaa.P
open Go.RowKit Go.Proofs.YtolmblfffnnabaaW.PrintWords Go.Proofs.YtolmblfffnnabaaW.PrintLast Go.Proofs.YtolmblfffnnabaaW.PrintMore
attribute [local go_sem] max2_int min2_int max_two min_two max_three min_three max_four min_four   
set_option linter.unusedVariables false
set_option linter.unusedSimpArgs false
mutual
def impl_StoreOk.j0 : Nat → Bool → List ByteArray → List ByteArray → List Int → List Int → List Int → Option (Bool)
  | 0, _, _, _, _, _, _ => none
  | k + 1, x32, x398000, x398001, x398002, x398003, x398004 => if x32 = true then (some false) else (impl_StoreOk.l0 k 0 x398000 x398001 x398002 x398003 x398004)
def impl_StoreOk.l0 : Nat → Int → List ByteArray → List ByteArray → List Int → List Int → List Int → Option (Bool)
  | 0, _, _, _, _, _, _ => none
  | k + 1, x33, x398000, x398001, x398002, x398003, x398004 => if x33 < 3 then (if 0 ≤ x33 then (if x33 < (x398000.length : Int) then ((impl_TextOk.f k (rdOf ByteArray.empty x398000 x33)).bind fun t399 => (if t399 = true then (if x33 < (x398001.length : Int) then ((impl_TextOk.f k (rdOf ByteArray.empty x398001 x33)).bind fun t401 => (if t401 = true then (impl_StoreOk.l0 k (wrap64 (x33 + 1)) x398000 x398001 x398002 x398003 x398004) else (some false))) else (none)) else (some false))) else (none)) else (none)) else (impl_StoreOk.l1 k 0 x398000 x398001 x398002 x398003 x398004)
def impl_StoreOk.l1 : Nat → Int → List ByteArray → List ByteArray → List Int → List Int → List Int → Option (Bool)
  | 0, _, _, _, _, _, _ => none
  | k + 1, x53, x398000, x398001, x398002, x398003, x398004 => if x53 < 3 then (if 0 ≤ x53 then (if x53 < (x398003.length : Int) then (if (rd x398003 x53) < 0 then (some false) else (if x53 < (x398002.length : Int) then (if (rd x398003 x53) > (rd x398002 x53) then (some false) else (if (rd x398002 x53) > 1000 then (some false) else (if x53 < (x398004.length : Int) then (if (rd x398004 x53) < 0 then (some false) else (if (rd x398004 x53) > 100 then (some false) else (impl_StoreOk.l1 k (wrap64 (x53 + 1)) x398000 x398001 x398002 x398003 x398004))) else (none)))) else (none))) else (none)) else (none)) else (some true)
end
def impl_StoreOk.f (k : Nat) (l0_0 : List ByteArray) (l0_1 : List ByteArray) (l0_2 : List Int) (l0_3 : List Int) (l0_4 : List Int) : Option (Bool) := if (l0_0.length : Int) = 3 then (if (l0_1.length : Int) = 3 then (if (l0_2.length : Int) = 3 then (if (l0_3.length : Int) = 3 then (impl_StoreOk.j0 k ((l0_4.length : Int) != 3) l0_0 l0_1 l0_2 l0_3 l0_4) else (impl_StoreOk.j0 k true l0_0 l0_1 l0_2 l0_3 l0_4)) else (impl_StoreOk.j0 k true l0_0 l0_1 l0_2 l0_3 l0_4)) else (impl_StoreOk.j0 k true l0_0 l0_1 l0_2 l0_3 l0_4)) else (impl_StoreOk.j0 k true l0_0 l0_1 l0_2 l0_3 l0_4)
set_option maxHeartbeats 8000000 in
set_option maxRecDepth 100000 in
theorem impl_StoreOk.calls (k : Nat) (A0_0 : Option Addr) (c0_0 : Nat) (l0_0 : List ByteArray) (A0_1 : Option Addr) (c0_1 : Nat) (l0_1 : List ByteArray) (A0_2 : Option Addr) (c0_2 : Nat) (l0_2 : List Int) (A0_3 : Option Addr) (c0_3 : Nat) (l0_3 : List Int) (A0_4 : Option Addr) (c0_4 : Nat) (l0_4 : List Int) (r : Bool) (w : World) (hr0_0 : Kd.C Kd.string w A0_0 l0_0.length l0_0) (hc0_0 : l0_0.length ≤ c0_0) (hr0_1 : Kd.C Kd.string w A0_1 l0_1.length l0_1) (hc0_1 : l0_1.length ≤ c0_1) (hr0_2 : Kd.C (Kd.int .i64) w A0_2 l0_2.length l0_2) (hc0_2 : l0_2.length ≤ c0_2) (hr0_3 : Kd.C (Kd.int .i64) w A0_3 l0_3.length l0_3) (hc0_3 : l0_3.length ≤ c0_3) (hr0_4 : Kd.C (Kd.int .i64) w A0_4 l0_4.length l0_4) (hc0_4 : l0_4.length ≤ c0_4) (h : impl_StoreOk.f k l0_0 l0_1 l0_2 l0_3 l0_4 = some r) :
    Calls Try.prog 22 #[.agg #[.slice A0_0 l0_0.length c0_0, .slice A0_1 l0_1.length c0_1, .slice A0_2 l0_2.length c0_2, .slice A0_3 l0_3.length c0_3, .slice A0_4 l0_4.length c0_4]] w fun e w' => e = .returned (.bool r) ∧ Below w.heap.size w w' := by
  have hu25 := Try.underlying25
  have HR0_0 := Aside0.mk hr0_0
  have HC0_0 := Aside0.mk hc0_0
  clear hr0_0 hc0_0
  have HR0_1 := Aside0.mk hr0_1
  have HC0_1 := Aside0.mk hc0_1
  clear hr0_1 hc0_1
  have HR0_2 := Aside0.mk hr0_2
  have HC0_2 := Aside0.mk hc0_2
  clear hr0_2 hc0_2
  have HR0_3 := Aside0.mk hr0_3
  have HC0_3 := Aside0.mk hc0_3
  clear hr0_3 hc0_3
  have HR0_4 := Aside0.mk hr0_4
  have HC0_4 := Aside0.mk hc0_4
  clear hr0_4 hc0_4
  have HB := Aside0.mk (Below.refl w.heap.size w)
  have H : (if (l0_0.length : Int) = 3 then (if (l0_1.length : Int) = 3 then (if (l0_2.length : Int) = 3 then (if (l0_3.length : Int) = 3 then (impl_StoreOk.j0 k ((l0_4.length : Int) != 3) l0_0 l0_1 l0_2 l0_3 l0_4) else (impl_StoreOk.j0 k true l0_0 l0_1 l0_2 l0_3 l0_4)) else (impl_StoreOk.j0 k true l0_0 l0_1 l0_2 l0_3 l0_4)) else (impl_StoreOk.j0 k true l0_0 l0_1 l0_2 l0_3 l0_4)) else (impl_StoreOk.j0 k true l0_0 l0_1 l0_2 l0_3 l0_4)) = some r := h
  clear h
  have HC2 := Aside0.mk H
  clear H
  go_enter Try.func22, Try.ntmps22
  go_upto_region 1 with (first | ((with_reducible refine gate_dst (N := 1) rfl ?_); (try (refine gate_guard (by rfl) ?_; dsimp only)); refine box_event ?hg (N := 1) ?hd (cs := #[.slice A0_0 l0_0.length c0_0, .slice A0_1 l0_1.length c0_1, .slice A0_2 l0_2.length c0_2, .slice A0_3 l0_3.length c0_3, .slice A0_4 l0_4.length c0_4]) (t := 25) ?hr ?_; (case hd => rfl); (case hg => rfl); (case hr => first | (go_simp; done) | (go_simp; rfl)); intro gb397 hg w3 hbox hb; have n0_ := Aside0.mk (below_step (by repeat (first | (with_reducible first | exact HB.out | apply below_alloc | apply pw_below_drewN | apply below_drew1) | exact HB.out)) hb); have n1_ := Aside0.mk (hbox); have n2_ := Aside0.mk ((by rw [hg]; exact (below_size (by repeat (first | (with_reducible first | exact HB.out | apply below_alloc | apply pw_below_drewN | apply below_drew1) | exact HB.out))) : w.heap.size ≤ gb397)); have n3_ := Aside0.mk ((by rw [hg]; exact (below_size (by repeat (first | (with_reducible first | exact HB.out | apply below_alloc | apply pw_below_drewN | apply below_drew1) | exact HB.out))) : w.heap.size ≤ gb397)); clear HB; have HB := n0_; have BK397 := n1_; have GW397 := n2_; have GE397 := n3_; clear n0_ n1_ n2_ n3_; clear hb hbox hg))
  repeat (go_quiet (first | ((with_reducible refine gate_dst (N := 1) rfl ?_); (try (refine gate_guard (by rfl) ?_; dsimp only)); refine box_event ?hg (N := 1) ?hd (cs := #[.slice A0_0 l0_0.length c0_0, .slice A0_1 l0_1.length c0_1, .slice A0_2 l0_2.length c0_2, .slice A0_3 l0_3.length c0_3, .slice A0_4 l0_4.length c0_4]) (t := 25) ?hr ?_; (case hd => rfl); (case hg => rfl); (case hr => first | (go_simp; done) | (go_simp; rfl)); intro gb397 hg w3 hbox hb; have n0_ := Aside0.mk (below_step (by repeat (first | (with_reducible first | exact HB.out | apply below_alloc | apply pw_below_drewN | apply below_drew1) | exact HB.out)) hb); have n1_ := Aside0.mk (hbox); have n2_ := Aside0.mk ((by rw [hg]; exact (below_size (by repeat (first | (with_reducible first | exact HB.out | apply below_alloc | apply pw_below_drewN | apply below_drew1) | exact HB.out))) : w.heap.size ≤ gb397)); have n3_ := Aside0.mk ((by rw [hg]; exact (below_size (by repeat (first | (with_reducible first | exact HB.out | apply below_alloc | apply pw_below_drewN | apply below_drew1) | exact HB.out))) : w.heap.size ≤ gb397)); clear HB; have HB := n0_; have BK397 := n1_; have GW397 := n2_; have GE397 := n3_; clear n0_ n1_ n2_ n3_; clear hb hbox hg)); go_upto_region 1 with (first | ((with_reducible refine gate_dst (N := 1) rfl ?_); (try (refine gate_guard (by rfl) ?_; dsimp only)); refine box_event ?hg (N := 1) ?hd (cs := #[.slice A0_0 l0_0.length c0_0, .slice A0_1 l0_1.length c0_1, .slice A0_2 l0_2.length c0_2, .slice A0_3 l0_3.length c0_3, .slice A0_4 l0_4.length c0_4]) (t := 25) ?hr ?_; (case hd => rfl); (case hg => rfl); (case hr => first | (go_simp; done) | (go_simp; rfl)); intro gb397 hg w3 hbox hb; have n0_ := Aside0.mk (below_step (by repeat (first | (with_reducible first | exact HB.out | apply below_alloc | apply pw_below_drewN | apply below_drew1) | exact HB.out)) hb); have n1_ := Aside0.mk (hbox); have n2_ := Aside0.mk ((by rw [hg]; exact (below_size (by repeat (first | (with_reducible first | exact HB.out | apply below_alloc | apply pw_below_drewN | apply below_drew1) | exact HB.out))) : w.heap.size ≤ gb397)); have n3_ := Aside0.mk ((by rw [hg]; exact (below_size (by repeat (first | (with_reducible first | exact HB.out | apply below_alloc | apply pw_below_drewN | apply below_drew1) | exact HB.out))) : w.heap.size ≤ gb397)); clear HB; have HB := n0_; have BK397 := n1_; have GW397 := n2_; have GE397 := n3_; clear n0_ n1_ n2_ n3_; clear hb hbox hg)))
  (try simp only [Act.put, List.setIfInBounds_toArray, List.set_cons_zero, List.set_cons_succ])
  go_cut [32] (fun v32 wc => ∃ (kq : Nat) (x32_1 : Bool), v32 = .bool x32_1 ∧ Aside0 (impl_StoreOk.j0 kq x32_1 l0_0 l0_1 l0_2 l0_3 l0_4 = some r) ∧ Aside0 (kq ≤ k) ∧ Aside0 (wc.heap[gb397]? = some (.cells #[(.slice A0_0 l0_0.length c0_0), (.slice A0_1 l0_1.length c0_1), (.slice A0_2 l0_2.length c0_2), (.slice A0_3 l0_3.length c0_3), (.slice A0_4 l0_4.length c0_4)] 25 (0, 0))) ∧ Aside0 (Below w.heap.size w wc))
  case first =>
    have H := HC2.out
    clear HC2
    by_cases c4 : (l0_0.length : Int) = 3
    · rw [if_pos c4] at H
      have c4b0 : ((l0_0.length : Int) == 3) = true := beq_iff_eq.mpr c4
      have c4b1 : ((l0_0.length : Int) != 3) = false := bne_eq_false_iff_eq.mpr c4
      clear c4
      (first | rw [c4b0] | (simp only [i64_w, i32_w]; rw [c4b0]) | skip)
      by_cases c5 : (l0_1.length : Int) = 3
      · rw [if_pos c5] at H
        have c5b0 : ((l0_1.length : Int) == 3) = true := beq_iff_eq.mpr c5
        have c5b1 : ((l0_1.length : Int) != 3) = false := bne_eq_false_iff_eq.mpr c5
        clear c5
        by_cases c6 : (l0_2.length : Int) = 3
        · rw [if_pos c6] at H
          have c6b0 : ((l0_2.length : Int) == 3) = true := beq_iff_eq.mpr c6
          have c6b1 : ((l0_2.length : Int) != 3) = false := bne_eq_false_iff_eq.mpr c6
          clear c6
          by_cases c7 : (l0_3.length : Int) = 3
          · rw [if_pos c7] at H
            have c7b0 : ((l0_3.length : Int) == 3) = true := beq_iff_eq.mpr c7
            have c7b1 : ((l0_3.length : Int) != 3) = false := bne_eq_false_iff_eq.mpr c7
            clear c7
            have H' := Aside0.mk H
            clear H
            have hcz8_0 : w3.cell? ⟨gb397, 0, none⟩ = some (.slice A0_0 l0_0.length c0_0) := (blk_cell BK397.out 0).trans rfl
            have hcz8_1 : w3.cell? ⟨gb397, 1, none⟩ = some (.slice A0_1 l0_1.length c0_1) := (blk_cell BK397.out 1).trans rfl
            have hcz8_2 : w3.cell? ⟨gb397, 2, none⟩ = some (.slice A0_2 l0_2.length c0_2) := (blk_cell BK397.out 2).trans rfl
            have hcz8_3 : w3.cell? ⟨gb397, 3, none⟩ = some (.slice A0_3 l0_3.length c0_3) := (blk_cell BK397.out 3).trans rfl
            have hcz8_4 : w3.cell? ⟨gb397, 4, none⟩ = some (.slice A0_4 l0_4.length c0_4) := (blk_cell BK397.out 4).trans rfl
            have hfz8_0 := blk_frozen BK397.out 0
            have hfz8_1 := blk_frozen BK397.out 1
            have hfz8_2 := blk_frozen BK397.out 2
            have hfz8_3 := blk_frozen BK397.out 3
            have hfz8_4 := blk_frozen BK397.out 4
            go_wp2
            repeat (go_quiet (fail); try go_wp2)
            go_meet
            case rel => exact ⟨_, (((l0_4.length : Int) != 3)), (by first | rfl | (simp; done) | (simp [*]; done)), H', ⟨by first | omega | exact Nat.le_refl _⟩, ⟨by (with_reducible repeat (first | refine blk_drewN ?_ _ | refine blk_drew ?_ | refine blk_alloc ?_ _)); exact BK397.out⟩, ⟨by repeat (first | (with_reducible first | exact HB.out | apply below_alloc | apply pw_below_drewN | apply below_drew1 | refine below_set ?_ GE397.out) | exact HB.out)⟩⟩
          · rw [if_neg c7] at H
            have c7b0 : ((l0_3.length : Int) == 3) = false := beq_eq_false_iff_ne.mpr c7
            have c7b1 : ((l0_3.length : Int) != 3) = true := bne_iff_ne.mpr c7
            have H' := Aside0.mk H
            clear H
            have hcz9_0 : w3.cell? ⟨gb397, 0, none⟩ = some (.slice A0_0 l0_0.length c0_0) := (blk_cell BK397.out 0).trans rfl
            have hcz9_1 : w3.cell? ⟨gb397, 1, none⟩ = some (.slice A0_1 l0_1.length c0_1) := (blk_cell BK397.out 1).trans rfl
            have hcz9_2 : w3.cell? ⟨gb397, 2, none⟩ = some (.slice A0_2 l0_2.length c0_2) := (blk_cell BK397.out 2).trans rfl
            have hcz9_3 : w3.cell? ⟨gb397, 3, none⟩ = some (.slice A0_3 l0_3.length c0_3) := (blk_cell BK397.out 3).trans rfl
            have hcz9_4 : w3.cell? ⟨gb397, 4, none⟩ = some (.slice A0_4 l0_4.length c0_4) := (blk_cell BK397.out 4).trans rfl
            have hfz9_0 := blk_frozen BK397.out 0
            have hfz9_1 := blk_frozen BK397.out 1
            have hfz9_2 := blk_frozen BK397.out 2
            have hfz9_3 := blk_frozen BK397.out 3
            have hfz9_4 := blk_frozen BK397.out 4
            go_wp2
            repeat (go_quiet (fail); try go_wp2)
            go_meet
            case rel => exact ⟨_, (true), (by first | rfl | (simp; done) | (simp [*]; done)), H', ⟨by first | omega | exact Nat.le_refl _⟩, ⟨by (with_reducible repeat (first | refine blk_drewN ?_ _ | refine blk_drew ?_ | refine blk_alloc ?_ _)); exact BK397.out⟩, ⟨by repeat (first | (with_reducible first | exact HB.out | apply below_alloc | apply pw_below_drewN | apply below_drew1 | refine below_set ?_ GE397.out) | exact HB.out)⟩⟩
        · rw [if_neg c6] at H
          have c6b0 : ((l0_2.length : Int) == 3) = false := beq_eq_false_iff_ne.mpr c6
          have c6b1 : ((l0_2.length : Int) != 3) = true := bne_iff_ne.mpr c6
          have H' := Aside0.mk H
          clear H
          have hcz10_0 : w3.cell? ⟨gb397, 0, none⟩ = some (.slice A0_0 l0_0.length c0_0) := (blk_cell BK397.out 0).trans rfl
          have hcz10_1 : w3.cell? ⟨gb397, 1, none⟩ = some (.slice A0_1 l0_1.length c0_1) := (blk_cell BK397.out 1).trans rfl
          have hcz10_2 : w3.cell? ⟨gb397, 2, none⟩ = some (.slice A0_2 l0_2.length c0_2) := (blk_cell BK397.out 2).trans rfl
          have hcz10_3 : w3.cell? ⟨gb397, 3, none⟩ = some (.slice A0_3 l0_3.length c0_3) := (blk_cell BK397.out 3).trans rfl
          have hcz10_4 : w3.cell? ⟨gb397, 4, none⟩ = some (.slice A0_4 l0_4.length c0_4) := (blk_cell BK397.out 4).trans rfl
          have hfz10_0 := blk_frozen BK397.out 0
          have hfz10_1 := blk_frozen BK397.out 1
          have hfz10_2 := blk_frozen BK397.out 2
          have hfz10_3 := blk_frozen BK397.out 3
          have hfz10_4 := blk_frozen BK397.out 4
          go_wp2
          repeat (go_quiet (fail); try go_wp2)
          go_meet
          case rel => exact ⟨_, (true), (by first | rfl | (simp; done) | (simp [*]; done)), H', ⟨by first | omega | exact Nat.le_refl _⟩, ⟨by (with_reducible repeat (first | refine blk_drewN ?_ _ | refine blk_drew ?_ | refine blk_alloc ?_ _)); exact BK397.out⟩, ⟨by repeat (first | (with_reducible first | exact HB.out | apply below_alloc | apply pw_below_drewN | apply below_drew1 | refine below_set ?_ GE397.out) | exact HB.out)⟩⟩
      · rw [if_neg c5] at H
        have c5b0 : ((l0_1.length : Int) == 3) = false := beq_eq_false_iff_ne.mpr c5
        have c5b1 : ((l0_1.length : Int) != 3) = true := bne_iff_ne.mpr c5
        have H' := Aside0.mk H
        clear H
        have hcz11_0 : w3.cell? ⟨gb397, 0, none⟩ = some (.slice A0_0 l0_0.length c0_0) := (blk_cell BK397.out 0).trans rfl
        have hcz11_1 : w3.cell? ⟨gb397, 1, none⟩ = some (.slice A0_1 l0_1.length c0_1) := (blk_cell BK397.out 1).trans rfl
        have hcz11_2 : w3.cell? ⟨gb397, 2, none⟩ = some (.slice A0_2 l0_2.length c0_2) := (blk_cell BK397.out 2).trans rfl
        have hcz11_3 : w3.cell? ⟨gb397, 3, none⟩ = some (.slice A0_3 l0_3.length c0_3) := (blk_cell BK397.out 3).trans rfl
        have hcz11_4 : w3.cell? ⟨gb397, 4, none⟩ = some (.slice A0_4 l0_4.length c0_4) := (blk_cell BK397.out 4).trans rfl
        have hfz11_0 := blk_frozen BK397.out 0
        have hfz11_1 := blk_frozen BK397.out 1
        have hfz11_2 := blk_frozen BK397.out 2
        have hfz11_3 := blk_frozen BK397.out 3
        have hfz11_4 := blk_frozen BK397.out 4
        go_wp2
        repeat (go_quiet (fail); try go_wp2)
        go_meet
        case rel => exact ⟨_, (true), (by first | rfl | (simp; done) | (simp [*]; done)), H', ⟨by first | omega | exact Nat.le_refl _⟩, ⟨by (with_reducible repeat (first | refine blk_drewN ?_ _ | refine blk_drew ?_ | refine blk_alloc ?_ _)); exact BK397.out⟩, ⟨by repeat (first | (with_reducible first | exact HB.out | apply below_alloc | apply pw_below_drewN | apply below_drew1 | refine below_set ?_ GE397.out) | exact HB.out)⟩⟩
    · rw [if_neg c4] at H
      have c4b0 : ((l0_0.length : Int) == 3) = false := beq_eq_false_iff_ne.mpr c4
      have c4b1 : ((l0_0.length : Int) != 3) = true := bne_iff_ne.mpr c4
      (first | rw [c4b0] | (simp only [i64_w, i32_w]; rw [c4b0]) | skip)
      have H' := Aside0.mk H
      clear H
      have hcz12_0 : w3.cell? ⟨gb397, 0, none⟩ = some (.slice A0_0 l0_0.length c0_0) := (blk_cell BK397.out 0).trans rfl
      have hcz12_1 : w3.cell? ⟨gb397, 1, none⟩ = some (.slice A0_1 l0_1.length c0_1) := (blk_cell BK397.out 1).trans rfl
      have hcz12_2 : w3.cell? ⟨gb397, 2, none⟩ = some (.slice A0_2 l0_2.length c0_2) := (blk_cell BK397.out 2).trans rfl
      have hcz12_3 : w3.cell? ⟨gb397, 3, none⟩ = some (.slice A0_3 l0_3.length c0_3) := (blk_cell BK397.out 3).trans rfl
      have hcz12_4 : w3.cell? ⟨gb397, 4, none⟩ = some (.slice A0_4 l0_4.length c0_4) := (blk_cell BK397.out 4).trans rfl
      have hfz12_0 := blk_frozen BK397.out 0
      have hfz12_1 := blk_frozen BK397.out 1
      have hfz12_2 := blk_frozen BK397.out 2
      have hfz12_3 := blk_frozen BK397.out 3
      have hfz12_4 := blk_frozen BK397.out 4
      go_wp2
      repeat (go_quiet (fail); try go_wp2)
      go_meet
      case rel => exact ⟨_, (true), (by first | rfl | (simp; done) | (simp [*]; done)), H', ⟨by first | omega | exact Nat.le_refl _⟩, ⟨by (with_reducible repeat (first | refine blk_drewN ?_ _ | refine blk_drew ?_ | refine blk_alloc ?_ _)); exact BK397.out⟩, ⟨by repeat (first | (with_reducible first | exact HB.out | apply below_alloc | apply pw_below_drewN | apply below_drew1 | refine below_set ?_ GE397.out) | exact HB.out)⟩⟩
  case rest =>
    clear HC2
    try clear c2
    try clear p2
    try clear c4
    try clear c4b0
    try clear c4b1
    try clear c5
    try clear c5b0
    try clear c5b1
    try clear c6
    try clear c6b0
    try clear c6b1
    try clear c7
    try clear c7b0
    try clear c7b1
    try clear hcz10_0
    try clear hcz10_1
    try clear hcz10_2
    try clear hcz10_3
    try clear hcz10_4
    try clear hcz11_0
    try clear hcz11_1
    try clear hcz11_2
    try clear hcz11_3
    try clear hcz11_4
    try clear hcz12_0
    try clear hcz12_1
    try clear hcz12_2
    try clear hcz12_3
    try clear hcz12_4
    try clear hcz8_0
    try clear hcz8_1
    try clear hcz8_2
    try clear hcz8_3
    try clear hcz8_4
    try clear hcz9_0
    try clear hcz9_1
    try clear hcz9_2
    try clear hcz9_3
    try clear hcz9_4
    try clear hfz10_0
    try clear hfz10_1
    try clear hfz10_2
    try clear hfz10_3
    try clear hfz10_4
    try clear hfz11_0
    try clear hfz11_1
    try clear hfz11_2
    try clear hfz11_3
    try clear hfz11_4
    try clear hfz12_0
    try clear hfz12_1
    try clear hfz12_2
    try clear hfz12_3
    try clear hfz12_4
    try clear hfz8_0
    try clear hfz8_1
    try clear hfz8_2
    try clear hfz8_3
    try clear hfz8_4
    try clear hfz9_0
    try clear hfz9_1
    try clear hfz9_2
    try clear hfz9_3
    try clear hfz9_4
    obtain ⟨kq, x32_1, rfl, HA, HJ1, BK397, HB⟩ := hcut
    cases kq with
    | zero => exact absurd HA.out (by simp [impl_StoreOk.j0])
    | succ kj1 =>
      have H := HA.out
      clear HA
      simp only [impl_StoreOk.j0] at H
      by_cases c13 : x32_1 = true
      · subst c13
        have H1 : (some false) = some r := by rw [if_pos rfl] at H; exact H
        clear H
        have H := H1
        clear H1
        obtain rfl := Option.some.inj H
        go_wp2
        repeat (go_quiet (fail); try go_wp2)
        go_ret
        exact ⟨by first | rfl | (simp [errW_none, errW_some] <;> rfl) | (simp [*, errW_none, errW_some] <;> rfl), by repeat (first | (with_reducible first | exact HB.out | apply below_alloc | apply pw_below_drewN | apply below_drew1 | refine below_set ?_ GE397.out) | exact HB.out)⟩
      · replace c13 := Bool.eq_false_iff.mpr c13
        subst c13
        have H1 : (impl_StoreOk.l0 kj1 0 l0_0 l0_1 l0_2 l0_3 l0_4) = some r := by rw [if_neg (show ¬ (false = true) by decide)] at H; exact H
        clear H
        have H := H1
        clear H1
        have H' := Aside0.mk H
        clear H
        go_wp2
        repeat (go_quiet (fail); try go_wp2)
        go_loopg [33] kj1 (fun kq v33 w' => ∃ (x33_2 : Int), v33 = .int .i64 x33_2 ∧ Aside0 (impl_StoreOk.l0 kq x33_2 l0_0 l0_1 l0_2 l0_3 l0_4 = some r) ∧ Aside0 (kq ≤ kj1) ∧ Aside0 (w'.heap[gb397]? = some (.cells #[(.slice A0_0 l0_0.length c0_0), (.slice A0_1 l0_1.length c0_1), (.slice A0_2 l0_2.length c0_2), (.slice A0_3 l0_3.length c0_3), (.slice A0_4 l0_4.length c0_4)] 25 (0, 0))) ∧ Aside0 (Below w.heap.size w w'))
        case atStart => exact ⟨(0), (by first | rfl | (simp; done) | (simp [*]; done)), H', ⟨Nat.le_refl _⟩, ⟨by (with_reducible repeat (first | refine blk_drewN ?_ _ | refine blk_drew ?_ | refine blk_alloc ?_ _)); exact BK397.out⟩, ⟨by repeat (first | (with_reducible first | exact HB.out | apply below_alloc | apply pw_below_drewN | apply below_drew1 | refine below_set ?_ GE397.out) | exact HB.out)⟩⟩
        case round =>
          clear H'
          try clear c1
          try clear c2
          try clear p2
          try clear c4
          try clear c4b0
          try clear c4b1
          try clear c5
          try clear c5b0
          try clear c5b1
          try clear c6
          try clear c6b0
          try clear c6b1
          try clear c7
          try clear c7b0
          try clear c7b1
          try clear c13
          try clear hcz10_0
          try clear hcz10_1
          try clear hcz10_2
          try clear hcz10_3
          try clear hcz10_4
          try clear hcz11_0
          try clear hcz11_1
          try clear hcz11_2
          try clear hcz11_3
          try clear hcz11_4
          try clear hcz12_0
          try clear hcz12_1
          try clear hcz12_2
          try clear hcz12_3
          try clear hcz12_4
          try clear hcz8_0
          try clear hcz8_1
          try clear hcz8_2
          try clear hcz8_3
          try clear hcz8_4
          try clear hcz9_0
          try clear hcz9_1
          try clear hcz9_2
          try clear hcz9_3
          try clear hcz9_4
          try clear hfz10_0
          try clear hfz10_1
          try clear hfz10_2
          try clear hfz10_3
          try clear hfz10_4
          try clear hfz11_0
          try clear hfz11_1
          try clear hfz11_2
          try clear hfz11_3
          try clear hfz11_4
          try clear hfz12_0
          try clear hfz12_1
          try clear hfz12_2
          try clear hfz12_3
          try clear hfz12_4
          try clear hfz8_0
          try clear hfz8_1
          try clear hfz8_2
          try clear hfz8_3
          try clear hfz8_4
          try clear hfz9_0
          try clear hfz9_1
          try clear hfz9_2
          try clear hfz9_3
          try clear hfz9_4
          try clear p2
          obtain ⟨x33_2, rfl, HA, HK2, BK397, HB⟩ := hrel
          cases gk with
          | zero => exact absurd HA.out (by simp [impl_StoreOk.l0])
          | succ k2 =>
            have H := HA.out
            clear HA
            simp only [impl_StoreOk.l0] at H
            by_cases c14 : x33_2 < 3
            · rw [if_pos c14] at H
              have c14b0 : decide (x33_2 < 3) = true := decide_eq_true c14
              clear c14
              by_cases c15 : 0 ≤ x33_2
              · rw [if_pos c15] at H
                have c15b0 : decide (0 ≤ x33_2) = true := decide_eq_true c15
                clear c15
                by_cases c16 : x33_2 < (l0_0.length : Int)
                · rw [if_pos c16] at H
                  have c16b0 : decide (x33_2 < (l0_0.length : Int)) = true := decide_eq_true c16
                  clear c16
                  replace H := Option.bind_eq_some_iff.mp H
                  obtain ⟨t399, A170, H⟩ := H
                  replace H : (if t399 = true then (if x33_2 < (l0_1.length : Int) then ((impl_TextOk.f k2 (rdOf ByteArray.empty l0_1 x33_2)).bind fun t401 => (if t401 = true then (impl_StoreOk.l0 k2 (wrap64 (x33_2 + 1)) l0_0 l0_1 l0_2 l0_3 l0_4) else (some false))) else (none)) else (some false)) = some r := H
                  have A17 := Aside0.mk A170
                  clear A170
                  by_cases c18 : t399 = true
                  · subst c18
                    have H1 : (if x33_2 < (l0_1.length : Int) then ((impl_TextOk.f k2 (rdOf ByteArray.empty l0_1 x33_2)).bind fun t401 => (if t401 = true then (impl_StoreOk.l0 k2 (wrap64 (x33_2 + 1)) l0_0 l0_1 l0_2 l0_3 l0_4) else (some false))) else (none)) = some r := by rw [if_pos rfl] at H; exact H
                    clear H
                    have H := H1
                    clear H1
                    by_cases c19 : x33_2 < (l0_1.length : Int)
                    · rw [if_pos c19] at H
                      have c19b0 : decide (x33_2 < (l0_1.length : Int)) = true := decide_eq_true c19
                      clear c19
                      replace H := Option.bind_eq_some_iff.mp H
                      obtain ⟨t401, A200, H⟩ := H
                      replace H : (if t401 = true then (impl_StoreOk.l0 k2 (wrap64 (x33_2 + 1)) l0_0 l0_1 l0_2 l0_3 l0_4) else (some false)) = some r := H
                      have A20 := Aside0.mk A200
                      clear A200
                      by_cases c21 : t401 = true
                      · subst c21
                        have H1 : (impl_StoreOk.l0 k2 (wrap64 (x33_2 + 1)) l0_0 l0_1 l0_2 l0_3 l0_4) = some r := by rw [if_pos rfl] at H; exact H
                        clear H
                        have H := H1
                        clear H1
                        have H' := Aside0.mk H
                        clear H
                        have hcz22_0 : wr.cell? ⟨gb397, 0, none⟩ = some (.slice A0_0 l0_0.length c0_0) := (blk_cell BK397.out 0).trans rfl
                        have hcz22_1 : wr.cell? ⟨gb397, 1, none⟩ = some (.slice A0_1 l0_1.length c0_1) := (blk_cell BK397.out 1).trans rfl
                        have hcz22_2 : wr.cell? ⟨gb397, 2, none⟩ = some (.slice A0_2 l0_2.length c0_2) := (blk_cell BK397.out 2).trans rfl
                        have hcz22_3 : wr.cell? ⟨gb397, 3, none⟩ = some (.slice A0_3 l0_3.length c0_3) := (blk_cell BK397.out 3).trans rfl
                        have hcz22_4 : wr.cell? ⟨gb397, 4, none⟩ = some (.slice A0_4 l0_4.length c0_4) := (blk_cell BK397.out 4).trans rfl
                        have hfz22_0 := blk_frozen BK397.out 0
                        have hfz22_1 := blk_frozen BK397.out 1
                        have hfz22_2 := blk_frozen BK397.out 2
                        have hfz22_3 := blk_frozen BK397.out 3
                        have hfz22_4 := blk_frozen BK397.out 4
                        have p398 : 0 ≤ (x33_2 : Int) := of_decide_eq_true (by first | (with_reducible assumption) | assumption)
                        have q398 : x33_2 < (l0_0.length : Int) := of_decide_eq_true (by first | (with_reducible assumption) | assumption)
                        obtain ⟨ad398, e398, hx398_0⟩ := Kd.at_string HR0_0.out x33_2 p398 q398
                        cases e398
                        replace hx398_0 := (HB.out.cell (World.block_lt_of_cell? w _ hx398_0)).trans hx398_0
                        replace p398 := eq_true p398
                        replace q398 := eq_true q398
                        go_wp2_with (first | (go_at_call 57; (with_reducible refine (impl_TextOk.calls k2 (rdOf ByteArray.empty l0_0 x33_2) true _ A17.out).mono ?_); rintro e w' ⟨rfl, ⟨nd, rfl⟩⟩; (try first | exact ⟨rfl, _, World.drewN_drewN _ _ _⟩ | exact ⟨rfl, _, Eq.trans (World.drewN_drewN _ _ _) (congrArg (World.drewN _) (Nat.add_assoc _ _ _))⟩); have p400 : 0 ≤ (x33_2 : Int) := of_decide_eq_true (by first | (with_reducible assumption) | assumption); have q400 : x33_2 < (l0_1.length : Int) := of_decide_eq_true (by first | (with_reducible assumption) | assumption); obtain ⟨ad400, e400, hx400_0⟩ := Kd.at_string HR0_1.out x33_2 p400 q400; cases e400; replace hx400_0 := (HB.out.cell (World.block_lt_of_cell? w _ hx400_0)).trans hx400_0; replace p400 := eq_true p400; replace q400 := eq_true q400) | (go_at_call 57; (with_reducible refine (impl_TextOk.calls k2 (rdOf ByteArray.empty l0_1 x33_2) true _ A20.out).mono ?_); rintro e w' ⟨rfl, ⟨nd, rfl⟩⟩; (try first | exact ⟨rfl, _, World.drewN_drewN _ _ _⟩ | exact ⟨rfl, _, Eq.trans (World.drewN_drewN _ _ _) (congrArg (World.drewN _) (Nat.add_assoc _ _ _))⟩)))
                        repeat (go_quiet (first | (go_at_call 57; (with_reducible refine (impl_TextOk.calls k2 (rdOf ByteArray.empty l0_0 x33_2) true _ A17.out).mono ?_); rintro e w' ⟨rfl, ⟨nd, rfl⟩⟩; (try first | exact ⟨rfl, _, World.drewN_drewN _ _ _⟩ | exact ⟨rfl, _, Eq.trans (World.drewN_drewN _ _ _) (congrArg (World.drewN _) (Nat.add_assoc _ _ _))⟩); have p400 : 0 ≤ (x33_2 : Int) := of_decide_eq_true (by first | (with_reducible assumption) | assumption); have q400 : x33_2 < (l0_1.length : Int) := of_decide_eq_true (by first | (with_reducible assumption) | assumption); obtain ⟨ad400, e400, hx400_0⟩ := Kd.at_string HR0_1.out x33_2 p400 q400; cases e400; replace hx400_0 := (HB.out.cell (World.block_lt_of_cell? w _ hx400_0)).trans hx400_0; replace p400 := eq_true p400; replace q400 := eq_true q400) | (go_at_call 57; (with_reducible refine (impl_TextOk.calls k2 (rdOf ByteArray.empty l0_1 x33_2) true _ A20.out).mono ?_); rintro e w' ⟨rfl, ⟨nd, rfl⟩⟩; (try first | exact ⟨rfl, _, World.drewN_drewN _ _ _⟩ | exact ⟨rfl, _, Eq.trans (World.drewN_drewN _ _ _) (congrArg (World.drewN _) (Nat.add_assoc _ _ _))⟩))); try go_wp2_with (first | (go_at_call 57; (with_reducible refine (impl_TextOk.calls k2 (rdOf ByteArray.empty l0_0 x33_2) true _ A17.out).mono ?_); rintro e w' ⟨rfl, ⟨nd, rfl⟩⟩; (try first | exact ⟨rfl, _, World.drewN_drewN _ _ _⟩ | exact ⟨rfl, _, Eq.trans (World.drewN_drewN _ _ _) (congrArg (World.drewN _) (Nat.add_assoc _ _ _))⟩); have p400 : 0 ≤ (x33_2 : Int) := of_decide_eq_true (by first | (with_reducible assumption) | assumption); have q400 : x33_2 < (l0_1.length : Int) := of_decide_eq_true (by first | (with_reducible assumption) | assumption); obtain ⟨ad400, e400, hx400_0⟩ := Kd.at_string HR0_1.out x33_2 p400 q400; cases e400; replace hx400_0 := (HB.out.cell (World.block_lt_of_cell? w _ hx400_0)).trans hx400_0; replace p400 := eq_true p400; replace q400 := eq_true q400) | (go_at_call 57; (with_reducible refine (impl_TextOk.calls k2 (rdOf ByteArray.empty l0_1 x33_2) true _ A20.out).mono ?_); rintro e w' ⟨rfl, ⟨nd, rfl⟩⟩; (try first | exact ⟨rfl, _, World.drewN_drewN _ _ _⟩ | exact ⟨rfl, _, Eq.trans (World.drewN_drewN _ _ _) (congrArg (World.drewN _) (Nat.add_assoc _ _ _))⟩))))
                        go_roundg k2
                        case measure => have := HJ1.out; have := HK2.out; omega
                        case rel => exact ⟨(wrap64 (x33_2 + 1)), (by first | rfl | (simp; done) | (simp [*]; done)), H', ⟨by have := HJ1.out; have := HK2.out; omega⟩, ⟨by (with_reducible repeat (first | refine blk_drewN ?_ _ | refine blk_drew ?_ | refine blk_alloc ?_ _)); exact BK397.out⟩, ⟨by repeat (first | (with_reducible first | exact HB.out | apply below_alloc | apply pw_below_drewN | apply below_drew1 | refine below_set ?_ GE397.out) | exact HB.out)⟩⟩
                      · replace c21 := Bool.eq_false_iff.mpr c21
                        subst c21
                        have H1 : (some false) = some r := by rw [if_neg (show ¬ (false = true) by decide)] at H; exact H
                        clear H
                        have H := H1
                        clear H1
                        obtain rfl := Option.some.inj H
                        have hcz23_0 : wr.cell? ⟨gb397, 0, none⟩ = some (.slice A0_0 l0_0.length c0_0) := (blk_cell BK397.out 0).trans rfl
                        have hcz23_1 : wr.cell? ⟨gb397, 1, none⟩ = some (.slice A0_1 l0_1.length c0_1) := (blk_cell BK397.out 1).trans rfl
                        have hcz23_2 : wr.cell? ⟨gb397, 2, none⟩ = some (.slice A0_2 l0_2.length c0_2) := (blk_cell BK397.out 2).trans rfl
                        have hcz23_3 : wr.cell? ⟨gb397, 3, none⟩ = some (.slice A0_3 l0_3.length c0_3) := (blk_cell BK397.out 3).trans rfl
                        have hcz23_4 : wr.cell? ⟨gb397, 4, none⟩ = some (.slice A0_4 l0_4.length c0_4) := (blk_cell BK397.out 4).trans rfl
                        have hfz23_0 := blk_frozen BK397.out 0
                        have hfz23_1 := blk_frozen BK397.out 1
                        have hfz23_2 := blk_frozen BK397.out 2
                        have hfz23_3 := blk_frozen BK397.out 3
                        have hfz23_4 := blk_frozen BK397.out 4
                        have p398 : 0 ≤ (x33_2 : Int) := of_decide_eq_true (by first | (with_reducible assumption) | assumption)
                        have q398 : x33_2 < (l0_0.length : Int) := of_decide_eq_true (by first | (with_reducible assumption) | assumption)
                        obtain ⟨ad398, e398, hx398_0⟩ := Kd.at_string HR0_0.out x33_2 p398 q398
                        cases e398
                        replace hx398_0 := (HB.out.cell (World.block_lt_of_cell? w _ hx398_0)).trans hx398_0
                        replace p398 := eq_true p398
                        replace q398 := eq_true q398
                        go_wp2_with (first | (go_at_call 57; (with_reducible refine (impl_TextOk.calls k2 (rdOf ByteArray.empty l0_0 x33_2) true _ A17.out).mono ?_); rintro e w' ⟨rfl, ⟨nd, rfl⟩⟩; (try first | exact ⟨rfl, _, World.drewN_drewN _ _ _⟩ | exact ⟨rfl, _, Eq.trans (World.drewN_drewN _ _ _) (congrArg (World.drewN _) (Nat.add_assoc _ _ _))⟩); have p400 : 0 ≤ (x33_2 : Int) := of_decide_eq_true (by first | (with_reducible assumption) | assumption); have q400 : x33_2 < (l0_1.length : Int) := of_decide_eq_true (by first | (with_reducible assumption) | assumption); obtain ⟨ad400, e400, hx400_0⟩ := Kd.at_string HR0_1.out x33_2 p400 q400; cases e400; replace hx400_0 := (HB.out.cell (World.block_lt_of_cell? w _ hx400_0)).trans hx400_0; replace p400 := eq_true p400; replace q400 := eq_true q400) | (go_at_call 57; (with_reducible refine (impl_TextOk.calls k2 (rdOf ByteArray.empty l0_1 x33_2) false _ A20.out).mono ?_); rintro e w' ⟨rfl, ⟨nd, rfl⟩⟩; (try first | exact ⟨rfl, _, World.drewN_drewN _ _ _⟩ | exact ⟨rfl, _, Eq.trans (World.drewN_drewN _ _ _) (congrArg (World.drewN _) (Nat.add_assoc _ _ _))⟩)))
                        repeat (go_quiet (first | (go_at_call 57; (with_reducible refine (impl_TextOk.calls k2 (rdOf ByteArray.empty l0_0 x33_2) true _ A17.out).mono ?_); rintro e w' ⟨rfl, ⟨nd, rfl⟩⟩; (try first | exact ⟨rfl, _, World.drewN_drewN _ _ _⟩ | exact ⟨rfl, _, Eq.trans (World.drewN_drewN _ _ _) (congrArg (World.drewN _) (Nat.add_assoc _ _ _))⟩); have p400 : 0 ≤ (x33_2 : Int) := of_decide_eq_true (by first | (with_reducible assumption) | assumption); have q400 : x33_2 < (l0_1.length : Int) := of_decide_eq_true (by first | (with_reducible assumption) | assumption); obtain ⟨ad400, e400, hx400_0⟩ := Kd.at_string HR0_1.out x33_2 p400 q400; cases e400; replace hx400_0 := (HB.out.cell (World.block_lt_of_cell? w _ hx400_0)).trans hx400_0; replace p400 := eq_true p400; replace q400 := eq_true q400) | (go_at_call 57; (with_reducible refine (impl_TextOk.calls k2 (rdOf ByteArray.empty l0_1 x33_2) false _ A20.out).mono ?_); rintro e w' ⟨rfl, ⟨nd, rfl⟩⟩; (try first | exact ⟨rfl, _, World.drewN_drewN _ _ _⟩ | exact ⟨rfl, _, Eq.trans (World.drewN_drewN _ _ _) (congrArg (World.drewN _) (Nat.add_assoc _ _ _))⟩))); try go_wp2_with (first | (go_at_call 57; (with_reducible refine (impl_TextOk.calls k2 (rdOf ByteArray.empty l0_0 x33_2) true _ A17.out).mono ?_); rintro e w' ⟨rfl, ⟨nd, rfl⟩⟩; (try first | exact ⟨rfl, _, World.drewN_drewN _ _ _⟩ | exact ⟨rfl, _, Eq.trans (World.drewN_drewN _ _ _) (congrArg (World.drewN _) (Nat.add_assoc _ _ _))⟩); have p400 : 0 ≤ (x33_2 : Int) := of_decide_eq_true (by first | (with_reducible assumption) | assumption); have q400 : x33_2 < (l0_1.length : Int) := of_decide_eq_true (by first | (with_reducible assumption) | assumption); obtain ⟨ad400, e400, hx400_0⟩ := Kd.at_string HR0_1.out x33_2 p400 q400; cases e400; replace hx400_0 := (HB.out.cell (World.block_lt_of_cell? w _ hx400_0)).trans hx400_0; replace p400 := eq_true p400; replace q400 := eq_true q400) | (go_at_call 57; (with_reducible refine (impl_TextOk.calls k2 (rdOf ByteArray.empty l0_1 x33_2) false _ A20.out).mono ?_); rintro e w' ⟨rfl, ⟨nd, rfl⟩⟩; (try first | exact ⟨rfl, _, World.drewN_drewN _ _ _⟩ | exact ⟨rfl, _, Eq.trans (World.drewN_drewN _ _ _) (congrArg (World.drewN _) (Nat.add_assoc _ _ _))⟩))))
                        go_ret
                        exact ⟨by first | rfl | (simp [errW_none, errW_some] <;> rfl) | (simp [*, errW_none, errW_some] <;> rfl), by repeat (first | (with_reducible first | exact HB.out | apply below_alloc | apply pw_below_drewN | apply below_drew1 | refine below_set ?_ GE397.out) | exact HB.out)⟩
                    · rw [if_neg c19] at H
                      exact absurd H (by simp)
                  · replace c18 := Bool.eq_false_iff.mpr c18
                    subst c18
                    have H1 : (some false) = some r := by rw [if_neg (show ¬ (false = true) by decide)] at H; exact H
                    clear H
                    have H := H1
                    clear H1
                    obtain rfl := Option.some.inj H
                    have hcz24_0 : wr.cell? ⟨gb397, 0, none⟩ = some (.slice A0_0 l0_0.length c0_0) := (blk_cell BK397.out 0).trans rfl
                    have hcz24_1 : wr.cell? ⟨gb397, 1, none⟩ = some (.slice A0_1 l0_1.length c0_1) := (blk_cell BK397.out 1).trans rfl
                    have hcz24_2 : wr.cell? ⟨gb397, 2, none⟩ = some (.slice A0_2 l0_2.length c0_2) := (blk_cell BK397.out 2).trans rfl
                    have hcz24_3 : wr.cell? ⟨gb397, 3, none⟩ = some (.slice A0_3 l0_3.length c0_3) := (blk_cell BK397.out 3).trans rfl
                    have hcz24_4 : wr.cell? ⟨gb397, 4, none⟩ = some (.slice A0_4 l0_4.length c0_4) := (blk_cell BK397.out 4).trans rfl
                    have hfz24_0 := blk_frozen BK397.out 0
                    have hfz24_1 := blk_frozen BK397.out 1
                    have hfz24_2 := blk_frozen BK397.out 2
                    have hfz24_3 := blk_frozen BK397.out 3
                    have hfz24_4 := blk_frozen BK397.out 4
                    have p398 : 0 ≤ (x33_2 : Int) := of_decide_eq_true (by first | (with_reducible assumption) | assumption)
                    have q398 : x33_2 < (l0_0.length : Int) := of_decide_eq_true (by first | (with_reducible assumption) | assumption)
                    obtain ⟨ad398, e398, hx398_0⟩ := Kd.at_string HR0_0.out x33_2 p398 q398
                    cases e398
                    replace hx398_0 := (HB.out.cell (World.block_lt_of_cell? w _ hx398_0)).trans hx398_0
                    replace p398 := eq_true p398
                    replace q398 := eq_true q398
                    go_wp2_with (first | (go_at_call 57; (with_reducible refine (impl_TextOk.calls k2 (rdOf ByteArray.empty l0_0 x33_2) false _ A17.out).mono ?_); rintro e w' ⟨rfl, ⟨nd, rfl⟩⟩; (try first | exact ⟨rfl, _, World.drewN_drewN _ _ _⟩ | exact ⟨rfl, _, Eq.trans (World.drewN_drewN _ _ _) (congrArg (World.drewN _) (Nat.add_assoc _ _ _))⟩)))
                    repeat (go_quiet (first | (go_at_call 57; (with_reducible refine (impl_TextOk.calls k2 (rdOf ByteArray.empty l0_0 x33_2) false _ A17.out).mono ?_); rintro e w' ⟨rfl, ⟨nd, rfl⟩⟩; (try first | exact ⟨rfl, _, World.drewN_drewN _ _ _⟩ | exact ⟨rfl, _, Eq.trans (World.drewN_drewN _ _ _) (congrArg (World.drewN _) (Nat.add_assoc _ _ _))⟩))); try go_wp2_with (first | (go_at_call 57; (with_reducible refine (impl_TextOk.calls k2 (rdOf ByteArray.empty l0_0 x33_2) false _ A17.out).mono ?_); rintro e w' ⟨rfl, ⟨nd, rfl⟩⟩; (try first | exact ⟨rfl, _, World.drewN_drewN _ _ _⟩ | exact ⟨rfl, _, Eq.trans (World.drewN_drewN _ _ _) (congrArg (World.drewN _) (Nat.add_assoc _ _ _))⟩))))
                    go_ret
                    exact ⟨by first | rfl | (simp [errW_none, errW_some] <;> rfl) | (simp [*, errW_none, errW_some] <;> rfl), by repeat (first | (with_reducible first | exact HB.out | apply below_alloc | apply pw_below_drewN | apply below_drew1 | refine below_set ?_ GE397.out) | exact HB.out)⟩
                · rw [if_neg c16] at H
                  exact absurd H (by simp)
              · rw [if_neg c15] at H
                exact absurd H (by simp)
            · rw [if_neg c14] at H
              have c14b0 : decide (x33_2 < 3) = false := decide_eq_false c14
              clear c14
              have H' := Aside0.mk H
              clear H
              go_wp2
              repeat (go_quiet (fail); try go_wp2)
              go_loopg [53] k2 (fun kq v53 w' => ∃ (x53_3 : Int), v53 = .int .i64 x53_3 ∧ Aside0 (impl_StoreOk.l1 kq x53_3 l0_0 l0_1 l0_2 l0_3 l0_4 = some r) ∧ Aside0 (kq ≤ k2) ∧ Aside0 (w'.heap[gb397]? = some (.cells #[(.slice A0_0 l0_0.length c0_0), (.slice A0_1 l0_1.length c0_1), (.slice A0_2 l0_2.length c0_2), (.slice A0_3 l0_3.length c0_3), (.slice A0_4 l0_4.length c0_4)] 25 (0, 0))) ∧ Aside0 (Below w.heap.size w w'))
              case atStart => exact ⟨(0), (by first | rfl | (simp; done) | (simp [*]; done)), H', ⟨Nat.le_refl _⟩, ⟨by (with_reducible repeat (first | refine blk_drewN ?_ _ | refine blk_drew ?_ | refine blk_alloc ?_ _)); exact BK397.out⟩, ⟨by repeat (first | (with_reducible first | exact HB.out | apply below_alloc | apply pw_below_drewN | apply below_drew1 | refine below_set ?_ GE397.out) | exact HB.out)⟩⟩
              case round =>
                clear H'
                try clear c1
                try clear c2
                try clear p2
                try clear p3
                try clear q3
                try clear hx3
                try clear c4
                try clear c4b0
                try clear c4b1
                try clear p4
                try clear q4
                try clear hx4
                try clear c5
                try clear c5b0
                try clear c5b1
                try clear c6
                try clear c6b0
                try clear c6b1
                try clear p6
                try clear c7
                try clear c7b0
                try clear c7b1
                try clear c13
                try clear c14
                try clear c14b0
                try clear c15
                try clear c15b0
                try clear c16
                try clear c16b0
                try clear c18
                try clear c19
                try clear c19b0
                try clear c21
                try clear c22
                try clear hcz10_0
                try clear hcz10_1
                try clear hcz10_2
                try clear hcz10_3
                try clear hcz10_4
                try clear hcz11_0
                try clear hcz11_1
                try clear hcz11_2
                try clear hcz11_3
                try clear hcz11_4
                try clear hcz12_0
                try clear hcz12_1
                try clear hcz12_2
                try clear hcz12_3
                try clear hcz12_4
                try clear hcz22_0
                try clear hcz22_1
                try clear hcz22_2
                try clear hcz22_3
                try clear hcz22_4
                try clear hcz23_0
                try clear hcz23_1
                try clear hcz23_2
                try clear hcz23_3
                try clear hcz23_4
                try clear hcz24_0
                try clear hcz24_1
                try clear hcz24_2
                try clear hcz24_3
                try clear hcz24_4
                try clear hcz8_0
                try clear hcz8_1
                try clear hcz8_2
                try clear hcz8_3
                try clear hcz8_4
                try clear hcz9_0
                try clear hcz9_1
                try clear hcz9_2
                try clear hcz9_3
                try clear hcz9_4
                try clear hfz10_0
                try clear hfz10_1
                try clear hfz10_2
                try clear hfz10_3
                try clear hfz10_4
                try clear hfz11_0
                try clear hfz11_1
                try clear hfz11_2
                try clear hfz11_3
                try clear hfz11_4
                try clear hfz12_0
                try clear hfz12_1
                try clear hfz12_2
                try clear hfz12_3
                try clear hfz12_4
                try clear hfz22_0
                try clear hfz22_1
                try clear hfz22_2
                try clear hfz22_3
                try clear hfz22_4
                try clear hfz23_0
                try clear hfz23_1
                try clear hfz23_2
                try clear hfz23_3
                try clear hfz23_4
                try clear hfz24_0
                try clear hfz24_1
                try clear hfz24_2
                try clear hfz24_3
                try clear hfz24_4
                try clear hfz8_0
                try clear hfz8_1
                try clear hfz8_2
                try clear hfz8_3
                try clear hfz8_4
                try clear hfz9_0
                try clear hfz9_1
                try clear hfz9_2
                try clear hfz9_3
                try clear hfz9_4
                try clear hx398_0
                try clear hx400_0
                try clear p2
                try clear p398
                try clear p400
                try clear q398
                try clear q400
                obtain ⟨x53_3, rfl, HA, HK3, BK397, HB⟩ := hrel
                cases gk with
                | zero => exact absurd HA.out (by simp [impl_StoreOk.l1])
                | succ k3 =>
                  have H := HA.out
                  clear HA
                  simp only [impl_StoreOk.l1] at H
                  by_cases c25 : x53_3 < 3
                  · rw [if_pos c25] at H
                    have c25b0 : decide (x53_3 < 3) = true := decide_eq_true c25
                    clear c25
                    by_cases c26 : 0 ≤ x53_3
                    · rw [if_pos c26] at H
                      have c26b0 : decide (0 ≤ x53_3) = true := decide_eq_true c26
                      clear c26
                      by_cases c27 : x53_3 < (l0_3.length : Int)
                      · rw [if_pos c27] at H
                        have c27b0 : decide (x53_3 < (l0_3.length : Int)) = true := decide_eq_true c27
                        clear c27
                        by_cases c28 : (rd l0_3 x53_3) < 0
                        · rw [if_pos c28] at H
                          have c28b0 : decide ((rd l0_3 x53_3) < 0) = true := decide_eq_true c28
                          clear c28
                          obtain rfl := Option.some.inj H
                          have hcz29_0 : wr.cell? ⟨gb397, 0, none⟩ = some (.slice A0_0 l0_0.length c0_0) := (blk_cell BK397.out 0).trans rfl
                          have hcz29_1 : wr.cell? ⟨gb397, 1, none⟩ = some (.slice A0_1 l0_1.length c0_1) := (blk_cell BK397.out 1).trans rfl
                          have hcz29_2 : wr.cell? ⟨gb397, 2, none⟩ = some (.slice A0_2 l0_2.length c0_2) := (blk_cell BK397.out 2).trans rfl
                          have hcz29_3 : wr.cell? ⟨gb397, 3, none⟩ = some (.slice A0_3 l0_3.length c0_3) := (blk_cell BK397.out 3).trans rfl
                          have hcz29_4 : wr.cell? ⟨gb397, 4, none⟩ = some (.slice A0_4 l0_4.length c0_4) := (blk_cell BK397.out 4).trans rfl
                          have hfz29_0 := blk_frozen BK397.out 0
                          have hfz29_1 := blk_frozen BK397.out 1
                          have hfz29_2 := blk_frozen BK397.out 2
                          have hfz29_3 := blk_frozen BK397.out 3
                          have hfz29_4 := blk_frozen BK397.out 4
                          have p402 : 0 ≤ (x53_3 : Int) := of_decide_eq_true (by first | (with_reducible assumption) | assumption)
                          have q402 : x53_3 < (l0_3.length : Int) := of_decide_eq_true (by first | (with_reducible assumption) | assumption)
                          obtain ⟨ad402, e402, hx402_0⟩ := Kd.at_int HR0_3.out x53_3 p402 q402
                          cases e402
                          replace hx402_0 := (HB.out.cell (World.block_lt_of_cell? w _ hx402_0)).trans hx402_0
                          replace p402 := eq_true p402
                          replace q402 := eq_true q402
                          go_wp2
                          repeat (go_quiet (fail); try go_wp2)
                          go_ret
                          exact ⟨by first | rfl | (simp [errW_none, errW_some] <;> rfl) | (simp [*, errW_none, errW_some] <;> rfl), by repeat (first | (with_reducible first | exact HB.out | apply below_alloc | apply pw_below_drewN | apply below_drew1 | refine below_set ?_ GE397.out) | exact HB.out)⟩
                        · rw [if_neg c28] at H
                          have c28b0 : decide ((rd l0_3 x53_3) < 0) = false := decide_eq_false c28
                          clear c28
                          by_cases c30 : x53_3 < (l0_2.length : Int)
                          · rw [if_pos c30] at H
                            have c30b0 : decide (x53_3 < (l0_2.length : Int)) = true := decide_eq_true c30
                            clear c30
                            by_cases c31 : (rd l0_3 x53_3) > (rd l0_2 x53_3)
                            · rw [if_pos c31] at H
                              have c31b0 : decide ((rd l0_2 x53_3) < (rd l0_3 x53_3)) = true := decide_eq_true c31
                              clear c31
                              obtain rfl := Option.some.inj H
                              have hcz32_0 : wr.cell? ⟨gb397, 0, none⟩ = some (.slice A0_0 l0_0.length c0_0) := (blk_cell BK397.out 0).trans rfl
                              have hcz32_1 : wr.cell? ⟨gb397, 1, none⟩ = some (.slice A0_1 l0_1.length c0_1) := (blk_cell BK397.out 1).trans rfl
                              have hcz32_2 : wr.cell? ⟨gb397, 2, none⟩ = some (.slice A0_2 l0_2.length c0_2) := (blk_cell BK397.out 2).trans rfl
                              have hcz32_3 : wr.cell? ⟨gb397, 3, none⟩ = some (.slice A0_3 l0_3.length c0_3) := (blk_cell BK397.out 3).trans rfl
                              have hcz32_4 : wr.cell? ⟨gb397, 4, none⟩ = some (.slice A0_4 l0_4.length c0_4) := (blk_cell BK397.out 4).trans rfl
                              have hfz32_0 := blk_frozen BK397.out 0
                              have hfz32_1 := blk_frozen BK397.out 1
                              have hfz32_2 := blk_frozen BK397.out 2
                              have hfz32_3 := blk_frozen BK397.out 3
                              have hfz32_4 := blk_frozen BK397.out 4
                              have p402 : 0 ≤ (x53_3 : Int) := of_decide_eq_true (by first | (with_reducible assumption) | assumption)
                              have q402 : x53_3 < (l0_3.length : Int) := of_decide_eq_true (by first | (with_reducible assumption) | assumption)
                              obtain ⟨ad402, e402, hx402_0⟩ := Kd.at_int HR0_3.out x53_3 p402 q402
                              cases e402
                              replace hx402_0 := (HB.out.cell (World.block_lt_of_cell? w _ hx402_0)).trans hx402_0
                              replace p402 := eq_true p402
                              replace q402 := eq_true q402
                              have p403 : 0 ≤ (x53_3 : Int) := of_decide_eq_true (by first | (with_reducible assumption) | assumption)
                              have q403 : x53_3 < (l0_3.length : Int) := of_decide_eq_true (by first | (with_reducible assumption) | assumption)
                              obtain ⟨ad403, e403, hx403_0⟩ := Kd.at_int HR0_3.out x53_3 p403 q403
                              obtain rfl : ad402 = ad403 := (by injection e403)
                              replace hx403_0 := (HB.out.cell (World.block_lt_of_cell? w _ hx403_0)).trans hx403_0
                              replace p403 := eq_true p403
                              replace q403 := eq_true q403
                              have p404 : 0 ≤ (x53_3 : Int) := of_decide_eq_true (by first | (with_reducible assumption) | assumption)
                              have q404 : x53_3 < (l0_2.length : Int) := of_decide_eq_true (by first | (with_reducible assumption) | assumption)
                              obtain ⟨ad404, e404, hx404_0⟩ := Kd.at_int HR0_2.out x53_3 p404 q404
                              cases e404
                              replace hx404_0 := (HB.out.cell (World.block_lt_of_cell? w _ hx404_0)).trans hx404_0
                              replace p404 := eq_true p404
                              replace q404 := eq_true q404
                              go_wp2
                              repeat (go_quiet (fail); try go_wp2)
                              go_ret
                              exact ⟨by first | rfl | (simp [errW_none, errW_some] <;> rfl) | (simp [*, errW_none, errW_some] <;> rfl), by repeat (first | (with_reducible first | exact HB.out | apply below_alloc | apply pw_below_drewN | apply below_drew1 | refine below_set ?_ GE397.out) | exact HB.out)⟩
                            · rw [if_neg c31] at H
                              have c31b0 : decide ((rd l0_2 x53_3) < (rd l0_3 x53_3)) = false := decide_eq_false c31
                              clear c31
                              by_cases c33 : (rd l0_2 x53_3) > 1000
                              · rw [if_pos c33] at H
                                have c33b0 : decide (1000 < (rd l0_2 x53_3)) = true := decide_eq_true c33
                                clear c33
                                obtain rfl := Option.some.inj H
                                have hcz34_0 : wr.cell? ⟨gb397, 0, none⟩ = some (.slice A0_0 l0_0.length c0_0) := (blk_cell BK397.out 0).trans rfl
                                have hcz34_1 : wr.cell? ⟨gb397, 1, none⟩ = some (.slice A0_1 l0_1.length c0_1) := (blk_cell BK397.out 1).trans rfl
                                have hcz34_2 : wr.cell? ⟨gb397, 2, none⟩ = some (.slice A0_2 l0_2.length c0_2) := (blk_cell BK397.out 2).trans rfl
                                have hcz34_3 : wr.cell? ⟨gb397, 3, none⟩ = some (.slice A0_3 l0_3.length c0_3) := (blk_cell BK397.out 3).trans rfl
                                have hcz34_4 : wr.cell? ⟨gb397, 4, none⟩ = some (.slice A0_4 l0_4.length c0_4) := (blk_cell BK397.out 4).trans rfl
                                have hfz34_0 := blk_frozen BK397.out 0
                                have hfz34_1 := blk_frozen BK397.out 1
                                have hfz34_2 := blk_frozen BK397.out 2
                                have hfz34_3 := blk_frozen BK397.out 3
                                have hfz34_4 := blk_frozen BK397.out 4
                                have p402 : 0 ≤ (x53_3 : Int) := of_decide_eq_true (by first | (with_reducible assumption) | assumption)
                                have q402 : x53_3 < (l0_3.length : Int) := of_decide_eq_true (by first | (with_reducible assumption) | assumption)
                                obtain ⟨ad402, e402, hx402_0⟩ := Kd.at_int HR0_3.out x53_3 p402 q402
                                cases e402
                                replace hx402_0 := (HB.out.cell (World.block_lt_of_cell? w _ hx402_0)).trans hx402_0
                                replace p402 := eq_true p402
                                replace q402 := eq_true q402
                                have p403 : 0 ≤ (x53_3 : Int) := of_decide_eq_true (by first | (with_reducible assumption) | assumption)
                                have q403 : x53_3 < (l0_3.length : Int) := of_decide_eq_true (by first | (with_reducible assumption) | assumption)
                                obtain ⟨ad403, e403, hx403_0⟩ := Kd.at_int HR0_3.out x53_3 p403 q403
                                obtain rfl : ad402 = ad403 := (by injection e403)
                                replace hx403_0 := (HB.out.cell (World.block_lt_of_cell? w _ hx403_0)).trans hx403_0
                                replace p403 := eq_true p403
                                replace q403 := eq_true q403
                                have p404 : 0 ≤ (x53_3 : Int) := of_decide_eq_true (by first | (with_reducible assumption) | assumption)
                                have q404 : x53_3 < (l0_2.length : Int) := of_decide_eq_true (by first | (with_reducible assumption) | assumption)
                                obtain ⟨ad404, e404, hx404_0⟩ := Kd.at_int HR0_2.out x53_3 p404 q404
                                cases e404
                                replace hx404_0 := (HB.out.cell (World.block_lt_of_cell? w _ hx404_0)).trans hx404_0
                                replace p404 := eq_true p404
                                replace q404 := eq_true q404
                                have p405 : 0 ≤ (x53_3 : Int) := of_decide_eq_true (by first | (with_reducible assumption) | assumption)
                                have q405 : x53_3 < (l0_2.length : Int) := of_decide_eq_true (by first | (with_reducible assumption) | assumption)
                                obtain ⟨ad405, e405, hx405_0⟩ := Kd.at_int HR0_2.out x53_3 p405 q405
                                obtain rfl : ad404 = ad405 := (by injection e405)
                                replace hx405_0 := (HB.out.cell (World.block_lt_of_cell? w _ hx405_0)).trans hx405_0
                                replace p405 := eq_true p405
                                replace q405 := eq_true q405
                                go_wp2
                                repeat (go_quiet (fail); try go_wp2)
                                go_ret
                                exact ⟨by first | rfl | (simp [errW_none, errW_some] <;> rfl) | (simp [*, errW_none, errW_some] <;> rfl), by repeat (first | (with_reducible first | exact HB.out | apply below_alloc | apply pw_below_drewN | apply below_drew1 | refine below_set ?_ GE397.out) | exact HB.out)⟩
                              · rw [if_neg c33] at H
                                have c33b0 : decide (1000 < (rd l0_2 x53_3)) = false := decide_eq_false c33
                                clear c33
                                by_cases c35 : x53_3 < (l0_4.length : Int)
                                · rw [if_pos c35] at H
                                  have c35b0 : decide (x53_3 < (l0_4.length : Int)) = true := decide_eq_true c35
                                  clear c35
                                  by_cases c36 : (rd l0_4 x53_3) < 0
                                  · rw [if_pos c36] at H
                                    have c36b0 : decide ((rd l0_4 x53_3) < 0) = true := decide_eq_true c36
                                    clear c36
                                    obtain rfl := Option.some.inj H
                                    have hcz37_0 : wr.cell? ⟨gb397, 0, none⟩ = some (.slice A0_0 l0_0.length c0_0) := (blk_cell BK397.out 0).trans rfl
                                    have hcz37_1 : wr.cell? ⟨gb397, 1, none⟩ = some (.slice A0_1 l0_1.length c0_1) := (blk_cell BK397.out 1).trans rfl
                                    have hcz37_2 : wr.cell? ⟨gb397, 2, none⟩ = some (.slice A0_2 l0_2.length c0_2) := (blk_cell BK397.out 2).trans rfl
                                    have hcz37_3 : wr.cell? ⟨gb397, 3, none⟩ = some (.slice A0_3 l0_3.length c0_3) := (blk_cell BK397.out 3).trans rfl
                                    have hcz37_4 : wr.cell? ⟨gb397, 4, none⟩ = some (.slice A0_4 l0_4.length c0_4) := (blk_cell BK397.out 4).trans rfl
                                    have hfz37_0 := blk_frozen BK397.out 0
                                    have hfz37_1 := blk_frozen BK397.out 1
                                    have hfz37_2 := blk_frozen BK397.out 2
                                    have hfz37_3 := blk_frozen BK397.out 3
                                    have hfz37_4 := blk_frozen BK397.out 4
                                    have p402 : 0 ≤ (x53_3 : Int) := of_decide_eq_true (by first | (with_reducible assumption) | assumption)
                                    have q402 : x53_3 < (l0_3.length : Int) := of_decide_eq_true (by first | (with_reducible assumption) | assumption)
                                    obtain ⟨ad402, e402, hx402_0⟩ := Kd.at_int HR0_3.out x53_3 p402 q402
                                    cases e402
                                    replace hx402_0 := (HB.out.cell (World.block_lt_of_cell? w _ hx402_0)).trans hx402_0
                                    replace p402 := eq_true p402
                                    replace q402 := eq_true q402
                                    have p403 : 0 ≤ (x53_3 : Int) := of_decide_eq_true (by first | (with_reducible assumption) | assumption)
                                    have q403 : x53_3 < (l0_3.length : Int) := of_decide_eq_true (by first | (with_reducible assumption) | assumption)
                                    obtain ⟨ad403, e403, hx403_0⟩ := Kd.at_int HR0_3.out x53_3 p403 q403
                                    obtain rfl : ad402 = ad403 := (by injection e403)
                                    replace hx403_0 := (HB.out.cell (World.block_lt_of_cell? w _ hx403_0)).trans hx403_0
                                    replace p403 := eq_true p403
                                    replace q403 := eq_true q403
                                    have p404 : 0 ≤ (x53_3 : Int) := of_decide_eq_true (by first | (with_reducible assumption) | assumption)
                                    have q404 : x53_3 < (l0_2.length : Int) := of_decide_eq_true (by first | (with_reducible assumption) | assumption)
                                    obtain ⟨ad404, e404, hx404_0⟩ := Kd.at_int HR0_2.out x53_3 p404 q404
                                    cases e404
                                    replace hx404_0 := (HB.out.cell (World.block_lt_of_cell? w _ hx404_0)).trans hx404_0
                                    replace p404 := eq_true p404
                                    replace q404 := eq_true q404
                                    have p405 : 0 ≤ (x53_3 : Int) := of_decide_eq_true (by first | (with_reducible assumption) | assumption)
                                    have q405 : x53_3 < (l0_2.length : Int) := of_decide_eq_true (by first | (with_reducible assumption) | assumption)
                                    obtain ⟨ad405, e405, hx405_0⟩ := Kd.at_int HR0_2.out x53_3 p405 q405
                                    obtain rfl : ad404 = ad405 := (by injection e405)
                                    replace hx405_0 := (HB.out.cell (World.block_lt_of_cell? w _ hx405_0)).trans hx405_0
                                    replace p405 := eq_true p405
                                    replace q405 := eq_true q405
                                    have p406 : 0 ≤ (x53_3 : Int) := of_decide_eq_true (by first | (with_reducible assumption) | assumption)
                                    have q406 : x53_3 < (l0_4.length : Int) := of_decide_eq_true (by first | (with_reducible assumption) | assumption)
                                    obtain ⟨ad406, e406, hx406_0⟩ := Kd.at_int HR0_4.out x53_3 p406 q406
                                    cases e406
                                    replace hx406_0 := (HB.out.cell (World.block_lt_of_cell? w _ hx406_0)).trans hx406_0
                                    replace p406 := eq_true p406
                                    replace q406 := eq_true q406
                                    go_wp2
                                    repeat (go_quiet (fail); try go_wp2)
                                    go_ret
                                    exact ⟨by first | rfl | (simp [errW_none, errW_some] <;> rfl) | (simp [*, errW_none, errW_some] <;> rfl), by repeat (first | (with_reducible first | exact HB.out | apply below_alloc | apply pw_below_drewN | apply below_drew1 | refine below_set ?_ GE397.out) | exact HB.out)⟩
                                  · rw [if_neg c36] at H
                                    have c36b0 : decide ((rd l0_4 x53_3) < 0) = false := decide_eq_false c36
                                    clear c36
                                    by_cases c38 : (rd l0_4 x53_3) > 100
                                    · rw [if_pos c38] at H
                                      have c38b0 : decide (100 < (rd l0_4 x53_3)) = true := decide_eq_true c38
                                      clear c38
                                      obtain rfl := Option.some.inj H
                                      have hcz39_0 : wr.cell? ⟨gb397, 0, none⟩ = some (.slice A0_0 l0_0.length c0_0) := (blk_cell BK397.out 0).trans rfl
                                      have hcz39_1 : wr.cell? ⟨gb397, 1, none⟩ = some (.slice A0_1 l0_1.length c0_1) := (blk_cell BK397.out 1).trans rfl
                                      have hcz39_2 : wr.cell? ⟨gb397, 2, none⟩ = some (.slice A0_2 l0_2.length c0_2) := (blk_cell BK397.out 2).trans rfl
                                      have hcz39_3 : wr.cell? ⟨gb397, 3, none⟩ = some (.slice A0_3 l0_3.length c0_3) := (blk_cell BK397.out 3).trans rfl
                                      have hcz39_4 : wr.cell? ⟨gb397, 4, none⟩ = some (.slice A0_4 l0_4.length c0_4) := (blk_cell BK397.out 4).trans rfl
                                      have hfz39_0 := blk_frozen BK397.out 0
                                      have hfz39_1 := blk_frozen BK397.out 1
                                      have hfz39_2 := blk_frozen BK397.out 2
                                      have hfz39_3 := blk_frozen BK397.out 3
                                      have hfz39_4 := blk_frozen BK397.out 4
                                      have p402 : 0 ≤ (x53_3 : Int) := of_decide_eq_true (by first | (with_reducible assumption) | assumption)
                                      have q402 : x53_3 < (l0_3.length : Int) := of_decide_eq_true (by first | (with_reducible assumption) | assumption)
                                      obtain ⟨ad402, e402, hx402_0⟩ := Kd.at_int HR0_3.out x53_3 p402 q402
                                      cases e402
                                      replace hx402_0 := (HB.out.cell (World.block_lt_of_cell? w _ hx402_0)).trans hx402_0
                                      replace p402 := eq_true p402
                                      replace q402 := eq_true q402
                                      have p403 : 0 ≤ (x53_3 : Int) := of_decide_eq_true (by first | (with_reducible assumption) | assumption)
                                      have q403 : x53_3 < (l0_3.length : Int) := of_decide_eq_true (by first | (with_reducible assumption) | assumption)
                                      obtain ⟨ad403, e403, hx403_0⟩ := Kd.at_int HR0_3.out x53_3 p403 q403
                                      obtain rfl : ad402 = ad403 := (by injection e403)
                                      replace hx403_0 := (HB.out.cell (World.block_lt_of_cell? w _ hx403_0)).trans hx403_0
                                      replace p403 := eq_true p403
                                      replace q403 := eq_true q403
                                      have p404 : 0 ≤ (x53_3 : Int) := of_decide_eq_true (by first | (with_reducible assumption) | assumption)
                                      have q404 : x53_3 < (l0_2.length : Int) := of_decide_eq_true (by first | (with_reducible assumption) | assumption)
                                      obtain ⟨ad404, e404, hx404_0⟩ := Kd.at_int HR0_2.out x53_3 p404 q404
                                      cases e404
                                      replace hx404_0 := (HB.out.cell (World.block_lt_of_cell? w _ hx404_0)).trans hx404_0
                                      replace p404 := eq_true p404
                                      replace q404 := eq_true q404
                                      have p405 : 0 ≤ (x53_3 : Int) := of_decide_eq_true (by first | (with_reducible assumption) | assumption)
                                      have q405 : x53_3 < (l0_2.length : Int) := of_decide_eq_true (by first | (with_reducible assumption) | assumption)
                                      obtain ⟨ad405, e405, hx405_0⟩ := Kd.at_int HR0_2.out x53_3 p405 q405
                                      obtain rfl : ad404 = ad405 := (by injection e405)
                                      replace hx405_0 := (HB.out.cell (World.block_lt_of_cell? w _ hx405_0)).trans hx405_0
                                      replace p405 := eq_true p405
                                      replace q405 := eq_true q405
                                      have p406 : 0 ≤ (x53_3 : Int) := of_decide_eq_true (by first | (with_reducible assumption) | assumption)
                                      have q406 : x53_3 < (l0_4.length : Int) := of_decide_eq_true (by first | (with_reducible assumption) | assumption)
                                      obtain ⟨ad406, e406, hx406_0⟩ := Kd.at_int HR0_4.out x53_3 p406 q406
                                      cases e406
                                      replace hx406_0 := (HB.out.cell (World.block_lt_of_cell? w _ hx406_0)).trans hx406_0
                                      replace p406 := eq_true p406
                                      replace q406 := eq_true q406
                                      have p407 : 0 ≤ (x53_3 : Int) := of_decide_eq_true (by first | (with_reducible assumption) | assumption)
                                      have q407 : x53_3 < (l0_4.length : Int) := of_decide_eq_true (by first | (with_reducible assumption) | assumption)
                                      obtain ⟨ad407, e407, hx407_0⟩ := Kd.at_int HR0_4.out x53_3 p407 q407
                                      obtain rfl : ad406 = ad407 := (by injection e407)
                                      replace hx407_0 := (HB.out.cell (World.block_lt_of_cell? w _ hx407_0)).trans hx407_0
                                      replace p407 := eq_true p407
                                      replace q407 := eq_true q407
                                      go_wp2
                                      repeat (go_quiet (fail); try go_wp2)
                                      go_ret
                                      exact ⟨by first | rfl | (simp [errW_none, errW_some] <;> rfl) | (simp [*, errW_none, errW_some] <;> rfl), by repeat (first | (with_reducible first | exact HB.out | apply below_alloc | apply pw_below_drewN | apply below_drew1 | refine below_set ?_ GE397.out) | exact HB.out)⟩
                                    · rw [if_neg c38] at H
                                      have c38b0 : decide (100 < (rd l0_4 x53_3)) = false := decide_eq_false c38
                                      clear c38
                                      have H' := Aside0.mk H
                                      clear H
                                      have hcz40_0 : wr.cell? ⟨gb397, 0, none⟩ = some (.slice A0_0 l0_0.length c0_0) := (blk_cell BK397.out 0).trans rfl
                                      have hcz40_1 : wr.cell? ⟨gb397, 1, none⟩ = some (.slice A0_1 l0_1.length c0_1) := (blk_cell BK397.out 1).trans rfl
                                      have hcz40_2 : wr.cell? ⟨gb397, 2, none⟩ = some (.slice A0_2 l0_2.length c0_2) := (blk_cell BK397.out 2).trans rfl
                                      have hcz40_3 : wr.cell? ⟨gb397, 3, none⟩ = some (.slice A0_3 l0_3.length c0_3) := (blk_cell BK397.out 3).trans rfl
                                      have hcz40_4 : wr.cell? ⟨gb397, 4, none⟩ = some (.slice A0_4 l0_4.length c0_4) := (blk_cell BK397.out 4).trans rfl
                                      have hfz40_0 := blk_frozen BK397.out 0
                                      have hfz40_1 := blk_frozen BK397.out 1
                                      have hfz40_2 := blk_frozen BK397.out 2
                                      have hfz40_3 := blk_frozen BK397.out 3
                                      have hfz40_4 := blk_frozen BK397.out 4
                                      have p402 : 0 ≤ (x53_3 : Int) := of_decide_eq_true (by first | (with_reducible assumption) | assumption)
                                      have q402 : x53_3 < (l0_3.length : Int) := of_decide_eq_true (by first | (with_reducible assumption) | assumption)
                                      obtain ⟨ad402, e402, hx402_0⟩ := Kd.at_int HR0_3.out x53_3 p402 q402
                                      cases e402
                                      replace hx402_0 := (HB.out.cell (World.block_lt_of_cell? w _ hx402_0)).trans hx402_0
                                      replace p402 := eq_true p402
                                      replace q402 := eq_true q402
                                      have p403 : 0 ≤ (x53_3 : Int) := of_decide_eq_true (by first | (with_reducible assumption) | assumption)
                                      have q403 : x53_3 < (l0_3.length : Int) := of_decide_eq_true (by first | (with_reducible assumption) | assumption)
                                      obtain ⟨ad403, e403, hx403_0⟩ := Kd.at_int HR0_3.out x53_3 p403 q403
                                      obtain rfl : ad402 = ad403 := (by injection e403)
                                      replace hx403_0 := (HB.out.cell (World.block_lt_of_cell? w _ hx403_0)).trans hx403_0
                                      replace p403 := eq_true p403
                                      replace q403 := eq_true q403
                                      have p404 : 0 ≤ (x53_3 : Int) := of_decide_eq_true (by first | (with_reducible assumption) | assumption)
                                      have q404 : x53_3 < (l0_2.length : Int) := of_decide_eq_true (by first | (with_reducible assumption) | assumption)
                                      obtain ⟨ad404, e404, hx404_0⟩ := Kd.at_int HR0_2.out x53_3 p404 q404
                                      cases e404
                                      replace hx404_0 := (HB.out.cell (World.block_lt_of_cell? w _ hx404_0)).trans hx404_0
                                      replace p404 := eq_true p404
                                      replace q404 := eq_true q404
                                      have p405 : 0 ≤ (x53_3 : Int) := of_decide_eq_true (by first | (with_reducible assumption) | assumption)
                                      have q405 : x53_3 < (l0_2.length : Int) := of_decide_eq_true (by first | (with_reducible assumption) | assumption)
                                      obtain ⟨ad405, e405, hx405_0⟩ := Kd.at_int HR0_2.out x53_3 p405 q405
                                      obtain rfl : ad404 = ad405 := (by injection e405)
                                      replace hx405_0 := (HB.out.cell (World.block_lt_of_cell? w _ hx405_0)).trans hx405_0
                                      replace p405 := eq_true p405
                                      replace q405 := eq_true q405
                                      have p406 : 0 ≤ (x53_3 : Int) := of_decide_eq_true (by first | (with_reducible assumption) | assumption)
                                      have q406 : x53_3 < (l0_4.length : Int) := of_decide_eq_true (by first | (with_reducible assumption) | assumption)
                                      obtain ⟨ad406, e406, hx406_0⟩ := Kd.at_int HR0_4.out x53_3 p406 q406
                                      cases e406
                                      replace hx406_0 := (HB.out.cell (World.block_lt_of_cell? w _ hx406_0)).trans hx406_0
                                      replace p406 := eq_true p406
                                      replace q406 := eq_true q406
                                      have p407 : 0 ≤ (x53_3 : Int) := of_decide_eq_true (by first | (with_reducible assumption) | assumption)
                                      have q407 : x53_3 < (l0_4.length : Int) := of_decide_eq_true (by first | (with_reducible assumption) | assumption)
                                      obtain ⟨ad407, e407, hx407_0⟩ := Kd.at_int HR0_4.out x53_3 p407 q407
                                      obtain rfl : ad406 = ad407 := (by injection e407)
                                      replace hx407_0 := (HB.out.cell (World.block_lt_of_cell? w _ hx407_0)).trans hx407_0
                                      replace p407 := eq_true p407
                                      replace q407 := eq_true q407
                                      go_wp2
                                      repeat (go_quiet (fail); try go_wp2)
                                      go_roundg k3
                                      case measure => have := HJ1.out; have := HK2.out; have := HK3.out; omega
                                      case rel => exact ⟨(wrap64 (x53_3 + 1)), (by first | rfl | (simp; done) | (simp [*]; done)), H', ⟨by have := HJ1.out; have := HK2.out; have := HK3.out; omega⟩, ⟨by (with_reducible repeat (first | refine blk_drewN ?_ _ | refine blk_drew ?_ | refine blk_alloc ?_ _)); exact BK397.out⟩, ⟨by repeat (first | (with_reducible first | exact HB.out | apply below_alloc | apply pw_below_drewN | apply below_drew1 | refine below_set ?_ GE397.out) | exact HB.out)⟩⟩
                                · rw [if_neg c35] at H
                                  exact absurd H (by simp)
                          · rw [if_neg c30] at H
                            exact absurd H (by simp)
                      · rw [if_neg c27] at H
                        exact absurd H (by simp)
                    · rw [if_neg c26] at H
                      exact absurd H (by simp)
                  · rw [if_neg c25] at H
                    have c25b0 : decide (x53_3 < 3) = false := decide_eq_false c25
                    clear c25
                    obtain rfl := Option.some.inj H
                    go_wp2
                    repeat (go_quiet (fail); try go_wp2)
                    go_ret
                    exact ⟨by first | rfl | (simp [errW_none, errW_some] <;> rfl) | (simp [*, errW_none, errW_some] <;> rfl), by repeat (first | (with_reducible first | exact HB.out | apply below_alloc | apply pw_below_drewN | apply below_drew1 | refine below_set ?_ GE397.out) | exact HB.out)⟩
end Go.Proofs.Ytolmblfffnnabaa.P
namespace Go.Proofs.Ytolmblfffnnabaa.P
open Go.RowKit Go.Proofs.YtolmblfffnnabaaW.PrintWords
def byteOk (c : Int) : Bool := decide (c = 46) || (decide (97 ≤ c) && decide (c ≤ 122)) || (decide (48 ≤ c) && decide (c ≤ 57))
def bytesOk (s : ByteArray) : Bool := allUp (fun j => byteOk (bt s (j : Int))) 0 s.size
def textOk (s : ByteArray) : Bool := bytesOk s && decide (s.size ≤ 48)
theorem spec_l2Byte_eq (c : Int) : spec_l2Byte.f c = some (byteOk c) := by
  unfold spec_l2Byte.f byteOk
  by_cases h1 : c = 46
  · subst h1; rfl
  · by_cases h2 : c ≥ 97 <;> by_cases h3 : c ≤ 122 <;> by_cases h4 : c ≥ 48 <;> by_cases h5 : c ≤ 57 <;> simp [h1, h2, h3, h4, h5] <;> omega
theorem spec_TextOk_ev {s : ByteArray} (hs : s.size ≤ 9223372036854775807) : Ev (fun k => spec_TextOk.f k s) (textOk s) := by
  have h := loop_all (n := s.size) (G := fun k i => spec_TextOk.l0 k s (i : Int)) (E := fun j => byteOk (bt s (j : Int))) (z := decide (s.size ≤ 48)) (fun k i hi => by
    show spec_TextOk.l0 (k + 1) s (i : Int) = _
    rw [spec_TextOk.l0, if_pos (by omega), if_pos (by omega), spec_l2Byte_eq, Option.bind_some, w64s hi hs]) (fun k => by
    show spec_TextOk.l0 (k + 1) s (s.size : Int) = _
    rw [spec_TextOk.l0, if_neg (by omega)]
    simp only [Option.some.injEq, decide_eq_decide]
    omega) s.size 0 (by omega)
  exact h
theorem impl_TextOk_ev {s : ByteArray} (hs : s.size ≤ 9223372036854775807) : Ev (fun k => impl_TextOk.f k s) (textOk s) := by
  have h := loop_all (n := s.size) (G := fun k i => impl_TextOk.l0 k s (s.size : Int) (i : Int)) (E := fun j => byteOk (bt s (j : Int))) (z := decide (s.size ≤ 48)) (fun k i hi => by
    show impl_TextOk.l0 (k + 1) s (s.size : Int) (i : Int) = _
    rw [impl_TextOk.l0, if_pos (by omega), if_pos (by omega), if_pos (by omega), w64s hi hs]
    generalize bt s (i : Int) = c
    unfold byteOk
    by_cases h1 : c = 46 <;> by_cases h2 : c < 97 <;> by_cases h3 : c > 122 <;> by_cases h4 : c < 48 <;> by_cases h5 : c > 57 <;> simp [h1, h2, h3, h4, h5] <;> first | omega | (have h6 : ¬ (97 ≤ c) := by omega) <;> simp [*] <;> omega | skip) (fun k => by
    show impl_TextOk.l0 (k + 1) s (s.size : Int) (s.size : Int) = _
    rw [impl_TextOk.l0, if_neg (by omega)]
    simp only [Option.some.injEq, decide_eq_decide]
    omega) s.size 0 (by omega)
  exact h
def textsOk (l : List ByteArray) : Bool := allUp (fun j => textOk (l.getD j ByteArray.empty)) 0 l.length && decide (l.length = 3)
def numOk (s : St) (j : Nat) : Bool := decide (0 ≤ s.slast.getD j 0) && (decide (s.slast.getD j 0 ≤ s.last.getD j 0) && (decide (s.last.getD j 0 ≤ 1000) && (decide (0 ≤ s.floors.getD j 0) && decide (s.floors.getD j 0 ≤ 100))))
def lensOk (s : St) : Bool := decide (s.last.length = 3) && (decide (s.slast.length = 3) && decide (s.floors.length = 3))
def stOk (s : St) : Bool := textsOk s.now && (textsOk s.sure && (lensOk s && allUp (numOk s) 0 3))
theorem spec_l5Texts_ev {l : List ByteArray} (hl : l.length ≤ 9223372036854775807) (hz : ∀ x ∈ l, x.size ≤ 9223372036854775807) : Ev (fun k => spec_l5Texts.f k l) (textsOk l) := by
  have h := loop_ev (n := l.length) (G := fun k i => spec_l5Texts.l0 k l (i : Int)) (E := fun j => textOk (l.getD j ByteArray.empty)) (z := decide (l.length = 3)) (fun i hi z' hz' => by
    have hx : l.getD i ByteArray.empty = l[i] := by simp [List.getD_eq_getElem?_getD, hi]
    refine Ev.step (f := fun k => (spec_TextOk.f k l[i]).bind fun t => if t = true then spec_l5Texts.l0 k l ((i + 1 : Nat) : Int) else some false) (fun k => ?_) ?_
    · show spec_l5Texts.l0 (k + 1) l (i : Int) = _
      rw [spec_l5Texts.l0, if_pos (by omega), if_pos (by omega), rdOf_nat hi, w64s hi hl]
    · refine Ev.bind (spec_TextOk_ev (hz _ (List.getElem_mem hi))) ?_
      rw [hx]
      cases textOk l[i]
      · exact Ev.now _
      · exact hz') (Ev.step (f := fun _ => some (decide (l.length = 3))) (fun k => by
    show spec_l5Texts.l0 (k + 1) l (l.length : Int) = _
    rw [spec_l5Texts.l0, if_neg (by omega)]
    simp only [Option.some.injEq]
    by_cases h3 : l.length = 3
    · rw [h3]; rfl
    · rw [decide_eq_false h3]
      simp only [beq_eq_false_iff_ne, ne_eq]
      omega) (Ev.now _)) l.length 0 (by omega)
  exact h
theorem rd_getD (l : List Int) (j : Nat) : rd l (j : Int) = l.getD j 0 := by simp [rd]
theorem spec_nums_ev {s : St} (h2 : s.last.length = 3) (h3 : s.slast.length = 3) (h4 : s.floors.length = 3) : Ev (fun k => spec_StoreOk.l0 k 0 s.now s.sure s.last s.slast s.floors) (allUp (numOk s) 0 3) := by
  have h := loop_all (n := 3) (G := fun k i => spec_StoreOk.l0 k (i : Int) s.now s.sure s.last s.slast s.floors) (E := numOk s) (z := true) (fun k i hi => by
    show spec_StoreOk.l0 (k + 1) (i : Int) _ _ _ _ _ = _
    rw [spec_StoreOk.l0, if_pos (by omega), if_pos (by omega), if_pos (by omega), w64s hi (by omega), rd_getD, rd_getD, rd_getD]
    unfold numOk
    generalize s.slast.getD i 0 = x
    generalize s.last.getD i 0 = y
    generalize s.floors.getD i 0 = f
    by_cases g1 : x < 0
    · rw [if_pos g1, decide_eq_false (show ¬ 0 ≤ x by omega), Bool.false_and, if_neg (by decide)]
    rw [if_neg g1, if_pos (by omega), decide_eq_true (show 0 ≤ x by omega), Bool.true_and]
    by_cases g2 : x > y
    · rw [if_pos g2, decide_eq_false (show ¬ x ≤ y by omega), Bool.false_and, if_neg (by decide)]
    rw [if_neg g2, decide_eq_true (show x ≤ y by omega), Bool.true_and]
    by_cases g3 : y > 1000
    · rw [if_pos g3, decide_eq_false (show ¬ y ≤ 1000 by omega), Bool.false_and, if_neg (by decide)]
    rw [if_neg g3, if_pos (by omega), decide_eq_true (show y ≤ 1000 by omega), Bool.true_and]
    by_cases g4 : f < 0
    · rw [if_pos g4, decide_eq_false (show ¬ 0 ≤ f by omega), Bool.false_and, if_neg (by decide)]
    rw [if_neg g4, decide_eq_true (show 0 ≤ f by omega), Bool.true_and]
    by_cases g5 : f > 100
    · rw [if_pos g5, decide_eq_false (show ¬ f ≤ 100 by omega), if_neg (by decide)]
    rw [if_neg g5, decide_eq_true (show f ≤ 100 by omega), if_pos rfl]) (fun k => by
    show spec_StoreOk.l0 (k + 1) ((3 : Nat) : Int) _ _ _ _ _ = _
    rw [spec_StoreOk.l0, if_neg (by omega)]) 3 0 (by omega)
  rw [Bool.and_true] at h
  exact h
theorem impl_nums_ev {s : St} (h2 : s.last.length = 3) (h3 : s.slast.length = 3) (h4 : s.floors.length = 3) : Ev (fun k => impl_StoreOk.l1 k 0 s.now s.sure s.last s.slast s.floors) (allUp (numOk s) 0 3) := by
  have h := loop_all (n := 3) (G := fun k i => impl_StoreOk.l1 k (i : Int) s.now s.sure s.last s.slast s.floors) (E := numOk s) (z := true) (fun k i hi => by
    show impl_StoreOk.l1 (k + 1) (i : Int) _ _ _ _ _ = _
    rw [impl_StoreOk.l1, if_pos (by omega), if_pos (by omega), if_pos (by omega), w64s hi (by omega), rd_getD, rd_getD, rd_getD]
    unfold numOk
    generalize s.slast.getD i 0 = x
    generalize s.last.getD i 0 = y
    generalize s.floors.getD i 0 = f
    by_cases g1 : x < 0
    · rw [if_pos g1, decide_eq_false (show ¬ 0 ≤ x by omega), Bool.false_and, if_neg (by decide)]
    rw [if_neg g1, if_pos (by omega), decide_eq_true (show 0 ≤ x by omega), Bool.true_and]
    by_cases g2 : x > y
    · rw [if_pos g2, decide_eq_false (show ¬ x ≤ y by omega), Bool.false_and, if_neg (by decide)]
    rw [if_neg g2, decide_eq_true (show x ≤ y by omega), Bool.true_and]
    by_cases g3 : y > 1000
    · rw [if_pos g3, decide_eq_false (show ¬ y ≤ 1000 by omega), Bool.false_and, if_neg (by decide)]
    rw [if_neg g3, if_pos (by omega), decide_eq_true (show y ≤ 1000 by omega), Bool.true_and]
    by_cases g4 : f < 0
    · rw [if_pos g4, decide_eq_false (show ¬ 0 ≤ f by omega), Bool.false_and, if_neg (by decide)]
    rw [if_neg g4, decide_eq_true (show 0 ≤ f by omega), Bool.true_and]
    by_cases g5 : f > 100
    · rw [if_pos g5, decide_eq_false (show ¬ f ≤ 100 by omega), if_neg (by decide)]
    rw [if_neg g5, decide_eq_true (show f ≤ 100 by omega), if_pos rfl]) (fun k => by
    show impl_StoreOk.l1 (k + 1) ((3 : Nat) : Int) _ _ _ _ _ = _
    rw [impl_StoreOk.l1, if_neg (by omega)]) 3 0 (by omega)
  rw [Bool.and_true] at h
  exact h
theorem spec_StoreOk_ev {s : St} (hl : s.now.length ≤ 9223372036854775807 ∧ s.sure.length ≤ 9223372036854775807) (hz : Sized s) : Ev (fun k => spec_StoreOk.f k s.now s.sure s.last s.slast s.floors) (stOk s) := by
  unfold spec_StoreOk.f stOk
  have hj : ∀ b : Bool, (b = false → Ev (fun k => spec_StoreOk.l0 k 0 s.now s.sure s.last s.slast s.floors) (allUp (numOk s) 0 3)) → Ev (fun k => spec_StoreOk.j0 k b s.now s.sure s.last s.slast s.floors) (!b && allUp (numOk s) 0 3) := by
    intro b hb
    cases b
    · exact Ev.step (fun k => by rw [spec_StoreOk.j0, if_neg (by decide)]) (hb rfl)
    · exact Ev.step (f := fun _ => some false) (fun k => by rw [spec_StoreOk.j0, if_pos rfl]) (Ev.now _)
  refine Ev.bind (spec_l5Texts_ev hl.1 hz.1) ?_
  cases textsOk s.now
  · exact hj true (fun h => by cases h)
  refine Ev.bind (spec_l5Texts_ev hl.2 hz.2) ?_
  cases textsOk s.sure
  · exact hj true (fun h => by cases h)
  simp only [if_true, Bool.true_and]
  unfold lensOk
  by_cases h2 : s.last.length = 3
  · by_cases h3 : s.slast.length = 3
    · refine Ev.congr (f := fun k => spec_StoreOk.j0 k ((s.floors.length : Int) != 3) s.now s.sure s.last s.slast s.floors) (fun k => by rw [if_pos (by omega), if_pos (by omega)]) ?_
      by_cases h4 : s.floors.length = 3
      · have e : ((s.floors.length : Int) != 3) = false := by rw [h4]; rfl
        rw [e, decide_eq_true h2, decide_eq_true h3, decide_eq_true h4]
        exact hj false (fun _ => spec_nums_ev h2 h3 h4)
      · have e : ((s.floors.length : Int) != 3) = true := by simp only [bne_iff_ne, ne_eq]; omega
        rw [e, decide_eq_false h4, Bool.and_false, Bool.and_false, Bool.false_and]
        exact hj true (fun h => by cases h)
    · refine Ev.congr (f := fun k => spec_StoreOk.j0 k true s.now s.sure s.last s.slast s.floors) (fun k => by rw [if_pos (by omega), if_neg (by omega)]) ?_
      rw [decide_eq_false h3, Bool.false_and, Bool.and_false, Bool.false_and]
      exact hj true (fun h => by cases h)
  · refine Ev.congr (f := fun k => spec_StoreOk.j0 k true s.now s.sure s.last s.slast s.floors) (fun k => by rw [if_neg (by omega)]) ?_
    rw [decide_eq_false h2, Bool.false_and, Bool.false_and]
    exact hj true (fun h => by cases h)
theorem impl_texts_ev {s : St} {z : Bool} (h0 : s.now.length = 3) (h1 : s.sure.length = 3) (hz : Sized s) (hn : Ev (fun k => impl_StoreOk.l1 k 0 s.now s.sure s.last s.slast s.floors) z) :
    Ev (fun k => impl_StoreOk.l0 k 0 s.now s.sure s.last s.slast s.floors) (allUp (fun j => textOk (s.now.getD j ByteArray.empty) && textOk (s.sure.getD j ByteArray.empty)) 0 3 && z) := by
  have h := loop_ev (n := 3) (G := fun k i => impl_StoreOk.l0 k (i : Int) s.now s.sure s.last s.slast s.floors) (E := fun j => textOk (s.now.getD j ByteArray.empty) && textOk (s.sure.getD j ByteArray.empty)) (z := z) (fun i hi z' hz' => by
    have hx : s.now.getD i ByteArray.empty = s.now[i]'(by omega) := by simp [List.getD_eq_getElem?_getD, h0, hi]
    have hy : s.sure.getD i ByteArray.empty = s.sure[i]'(by omega) := by simp [List.getD_eq_getElem?_getD, h1, hi]
    refine Ev.step (f := fun k => (impl_TextOk.f k (s.now[i]'(by omega))).bind fun t => if t = true then (impl_TextOk.f k (s.sure[i]'(by omega))).bind fun t2 => if t2 = true then impl_StoreOk.l0 k ((i + 1 : Nat) : Int) s.now s.sure s.last s.slast s.floors else some false else some false) (fun k => ?_) ?_
    · show impl_StoreOk.l0 (k + 1) (i : Int) _ _ _ _ _ = _
      rw [impl_StoreOk.l0, if_pos (by omega), if_pos (by omega), if_pos (by omega), if_pos (by omega), rdOf_nat (l := s.now) (by omega), rdOf_nat (l := s.sure) (by omega), w64s hi (by omega)]
    · refine Ev.bind (impl_TextOk_ev (hz.1 _ (List.getElem_mem (by omega)))) ?_
      rw [hx, hy]
      cases textOk (s.now[i]'(by omega))
      · exact Ev.now _
      · simp only [if_true, Bool.true_and]
        refine Ev.bind (impl_TextOk_ev (hz.2 _ (List.getElem_mem (by omega)))) ?_
        cases textOk (s.sure[i]'(by omega))
        · exact Ev.now _
        · exact hz') (Ev.step (f := fun k => impl_StoreOk.l1 k 0 s.now s.sure s.last s.slast s.floors) (fun k => by
    show impl_StoreOk.l0 (k + 1) ((3 : Nat) : Int) _ _ _ _ _ = _
    rw [impl_StoreOk.l0, if_neg (by omega)]) hn) 3 0 (by omega)
  exact h
theorem allUp_and {E F : Nat → Bool} : ∀ {d i : Nat}, allUp (fun j => E j && F j) i d = (allUp E i d && allUp F i d)
  | 0, _ => rfl
  | d + 1, i => by
    simp only [allUp, allUp_and]
    cases E i <;> cases F i <;> simp
theorem impl_StoreOk_ev {s : St} (hz : Sized s) : Ev (fun k => impl_StoreOk.f k s.now s.sure s.last s.slast s.floors) (stOk s) := by
  have no : ∀ {z : Bool}, z = false → Ev (fun k => impl_StoreOk.j0 k true s.now s.sure s.last s.slast s.floors) z := by
    rintro z rfl
    exact Ev.step (f := fun _ => some false) (fun k => by rw [impl_StoreOk.j0, if_pos rfl]) (Ev.now _)
  unfold impl_StoreOk.f
  by_cases h0 : s.now.length = 3
  case neg =>
    refine Ev.congr (fun k => by rw [if_neg (by omega)]) (no ?_)
    simp [stOk, textsOk, h0]
  refine Ev.congr (fun k => by rw [if_pos (by omega)]) ?_
  by_cases h1 : s.sure.length = 3
  case neg =>
    refine Ev.congr (fun k => by rw [if_neg (by omega)]) (no ?_)
    simp [stOk, textsOk, h1]
  refine Ev.congr (fun k => by rw [if_pos (by omega)]) ?_
  by_cases h2 : s.last.length = 3
  case neg =>
    refine Ev.congr (fun k => by rw [if_neg (by omega)]) (no ?_)
    simp [stOk, lensOk, h2]
  refine Ev.congr (fun k => by rw [if_pos (by omega)]) ?_
  by_cases h3 : s.slast.length = 3
  case neg =>
    refine Ev.congr (fun k => by rw [if_neg (by omega)]) (no ?_)
    simp [stOk, lensOk, h3]
  refine Ev.congr (fun k => by rw [if_pos (by omega)]) ?_
  by_cases h4 : s.floors.length = 3
  case neg =>
    have e : ((s.floors.length : Int) != 3) = true := by simp only [bne_iff_ne, ne_eq]; omega
    rw [e]
    refine no ?_
    simp [stOk, lensOk, h4]
  have e : ((s.floors.length : Int) != 3) = false := by rw [h4]; rfl
  rw [e]
  refine Ev.step (f := fun k => impl_StoreOk.l0 k 0 s.now s.sure s.last s.slast s.floors) (fun k => by rw [impl_StoreOk.j0, if_neg (by decide)]) ?_
  have h := impl_texts_ev h0 h1 hz (impl_nums_ev h2 h3 h4)
  rw [allUp_and] at h
  simp only [stOk, textsOk, lensOk, h0, h1, h2, h3, h4, decide_true, Bool.and_true, Bool.true_and]
  rw [Bool.and_assoc] at h
  exact h
theorem spec_StoreOk_c {w : World} {v : Value} {s : St} (hv : StC w v s) (hz : Sized s) :
    Calls Try.prog 21 #[v] w fun e w' => e = .returned (.bool (stOk s)) ∧ Below w.heap.size w w' := by
  obtain ⟨k, hk⟩ := (spec_StoreOk_ev ⟨hv.lens.1, hv.lens.2.1⟩ hz).rounds
  obtain ⟨A0, c0, A1, c1, A2, c2, A3, c3, A4, c4, rfl, g0, g1, g2, g3, g4⟩ := hv
  exact spec_StoreOk.calls k A0 c0 s.now A1 c1 s.sure A2 c2 s.last A3 c3 s.slast A4 c4 s.floors _ w g0.1 g0.2 g1.1 g1.2 g2.1 g2.2 g3.1 g3.2 g4.1 g4.2 hk
theorem impl_StoreOk_c {w : World} {v : Value} {s : St} (hv : StC w v s) (hz : Sized s) :
    Calls Try.prog 22 #[v] w fun e w' => e = .returned (.bool (stOk s)) ∧ Below w.heap.size w w' := by
  obtain ⟨k, hk⟩ := (impl_StoreOk_ev hz).rounds
  obtain ⟨A0, c0, A1, c1, A2, c2, A3, c3, A4, c4, rfl, g0, g1, g2, g3, g4⟩ := hv
  exact impl_StoreOk.calls k A0 c0 s.now A1 c1 s.sure A2 c2 s.last A3 c3 s.slast A4 c4 s.floors _ w g0.1 g0.2 g1.1 g1.2 g2.1 g2.2 g3.1 g3.2 g4.1 g4.2 hk
theorem spec_StoreOk_q {w : World} {v : Value} {s : St} {q : Bool} (hv : StC w v s) (hz : Sized s) (hq : stOk s = q) :
    Calls Try.prog 21 #[v] w fun e w' => e = .returned (.bool q) ∧ Below w.heap.size w w' := hq ▸ spec_StoreOk_c hv hz
theorem impl_StoreOk_q {w : World} {v : Value} {s : St} {q : Bool} (hv : StC w v s) (hz : Sized s) (hq : stOk s = q) :
    Calls Try.prog 22 #[v] w fun e w' => e = .returned (.bool q) ∧ Below w.heap.size w w' := hq ▸ impl_StoreOk_c hv hz
end Go.Proofs.Ytolmblfffnnabaa.P
namespace Go.Proofs.Ytolmblfffnnabaa.P
open Go.RowKit Go.Proofs.YtolmblfffnnabaaW.PrintWords Go.Proofs.YtolmblfffnnabaaW.PrintLast Go.Proofs.YtolmblfffnnabaaW.PrintMore
attribute [local go_sem] max2_int min2_int max_two min_two max_three min_three max_four min_four   
set_option linter.unusedVariables false
set_option linter.unusedSimpArgs false
def spec_l1Min.f (a0 : Int) (a1 : Int) : Option (Int) := if a0 < a1 then (some a0) else (some a1)
set_option maxHeartbeats 8000000 in
set_option maxRecDepth 100000 in
theorem spec_l1Min.calls (a0 : Int) (a1 : Int) (r : Int) (w : World) (h : spec_l1Min.f a0 a1 = some r) :
    Calls Try.prog 75 #[.int .i64 a0, .int .i64 a1] w fun e w' => e = .returned (.int .i64 r) ∧ Drawn0 w w' := by
  have H : (if a0 < a1 then (some a0) else (some a1)) = some r := h
  clear h
  by_cases c3 : a0 < a1
  · rw [if_pos c3] at H
    have c3b0 : decide (a0 < a1) = true := decide_eq_true c3
    clear c3
    obtain rfl := Option.some.inj H
    go_enter Try.func75, Try.ntmps75
    go_wp2
    go_ret
    exact ⟨by first | rfl | (simp; done) | (simp [*]; done), by repeat (first | exact Drawn0.refl _ | apply Drawn0.step)⟩
  · rw [if_neg c3] at H
    have c3b0 : decide (a0 < a1) = false := decide_eq_false c3
    clear c3
    obtain rfl := Option.some.inj H
    go_enter Try.func75, Try.ntmps75
    go_wp2
    go_ret
    exact ⟨by first | rfl | (simp; done) | (simp [*]; done), by repeat (first | exact Drawn0.refl _ | apply Drawn0.step)⟩
end Go.Proofs.Ytolmblfffnnabaa.P
namespace Go.Proofs.Ytolmblfffnnabaa.P
open Go.RowKit Go.Proofs.YtolmblfffnnabaaW.PrintWords Go.Proofs.YtolmblfffnnabaaW.PrintLast Go.Proofs.YtolmblfffnnabaaW.PrintMore
attribute [local go_sem] max2_int min2_int max_two min_two max_three min_three max_four min_four   
set_option linter.unusedVariables false
set_option linter.unusedSimpArgs false
def spec_l2Long.l0 : Nat → ByteArray → Int → Option (ByteArray)
  | 0, _, _ => none
  | k + 1, x0, x1 => if (x0.size : Int) < x1 then (if x0.size + 1 ≤ 9223372036854775807 then (spec_l2Long.l0 k (x0 ++ (⟨#[46]⟩ : ByteArray)) x1) else (none)) else (some x0)
def spec_l2Long.f (k : Nat) (a0 : ByteArray) (a1 : Int) : Option (ByteArray) := spec_l2Long.l0 k a0 a1
set_option maxHeartbeats 8000000 in
set_option maxRecDepth 100000 in
theorem spec_l2Long.calls (k : Nat) (a0 : ByteArray) (a1 : Int) (r : ByteArray) (w : World) (h : spec_l2Long.f k a0 a1 = some r) :
    Calls Try.prog 80 #[.string a0, .int .i64 a1] w fun e w' => e = .returned (.string r) ∧ Drawn0 w w' := by
  have H : (spec_l2Long.l0 k a0 a1) = some r := h
  clear h
  have H' := Aside0.mk H
  clear H
  go_enter Try.func80, Try.ntmps80
  go_wp2
  go_loopg [0] k (fun kq v0 w' => ∃ (x0_1 : ByteArray), v0 = .string x0_1 ∧ Aside0 (spec_l2Long.l0 kq x0_1 a1 = some r) ∧ Aside0 (kq ≤ k) ∧ Drawn0 w w')
  case atStart => exact ⟨(a0), (by first | rfl | (simp; done) | (simp [*]; done)), H', ⟨Nat.le_refl _⟩, by repeat (first | exact Drawn0.refl _ | apply Drawn0.step)⟩
  case round =>
    clear H'
    try clear p2
    obtain ⟨x0_1, rfl, HA, HK1, ⟨m1, rfl⟩⟩ := hrel
    cases gk with
    | zero => exact absurd HA.out (by simp [spec_l2Long.l0])
    | succ k1 =>
      have H := HA.out
      clear HA
      simp only [spec_l2Long.l0] at H
      by_cases c3 : (x0_1.size : Int) < a1
      · rw [if_pos c3] at H
        have c3b0 : decide ((x0_1.size : Int) < a1) = true := decide_eq_true c3
        clear c3
        by_cases c4 : x0_1.size + 1 ≤ 9223372036854775807
        · rw [if_pos c4] at H
          have c4b0 := eq_true c4
          have c4b1 : decide (x0_1.size + 1 ≤ 9223372036854775807) = true := decide_eq_true c4
          try have c4b2 : (9223372036854775807 < x0_1.size + 1) = False := eq_false (Nat.not_lt.2 c4)
          have H' := Aside0.mk H
          clear H
          go_wp2
          go_roundg k1
          case measure => have := HK1.out; omega
          case rel => exact ⟨(x0_1 ++ (⟨#[46]⟩ : ByteArray)), (by first | rfl | (simp; done) | (simp [*]; done)), H', ⟨by have := HK1.out; omega⟩, by repeat (first | exact Drawn0.refl _ | apply Drawn0.step)⟩
        · rw [if_neg c4] at H
          exact absurd H (by simp)
      · rw [if_neg c3] at H
        have c3b0 : decide ((x0_1.size : Int) < a1) = false := decide_eq_false c3
        clear c3
        obtain rfl := Option.some.inj H
        go_wp2
        go_ret
        exact ⟨by first | rfl | (simp; done) | (simp [*]; done), by repeat (first | exact Drawn0.refl _ | apply Drawn0.step)⟩
end Go.Proofs.Ytolmblfffnnabaa.P
namespace Go.Proofs.Ytolmblfffnnabaa.P
open Go.RowKit Go.Proofs.YtolmblfffnnabaaW.PrintWords Go.Proofs.YtolmblfffnnabaaW.PrintLast Go.Proofs.YtolmblfffnnabaaW.PrintMore
attribute [local go_sem] max2_int min2_int max_two min_two max_three min_three max_four min_four   
set_option linter.unusedVariables false
set_option linter.unusedSimpArgs false
def spec_l2Write.f (k : Nat) (a0 : ByteArray) (a1 : Int) (a2 : ByteArray) : Option (ByteArray) := (spec_l2Long.f k a0 a1).bind fun t1139 => (if 0 ≤ a1 then (if a1 ≤ (t1139.size : Int) then (if (t1139.extract 0 (a1 : Int).toNat).size + a2.size ≤ 9223372036854775807 then ((spec_l1Min.f (t1139.size : Int) (wrap64 (a1 + (a2.size : Int)))).bind fun t1140 => (if 0 ≤ t1140 then (if t1140 ≤ (t1139.size : Int) then (if ((t1139.extract 0 (a1 : Int).toNat) ++ a2).size + (t1139.extract (t1140 : Int).toNat t1139.size).size ≤ 9223372036854775807 then (some (((t1139.extract 0 (a1 : Int).toNat) ++ a2) ++ (t1139.extract (t1140 : Int).toNat t1139.size))) else (none)) else (none)) else (none))) else (none)) else (none)) else (none))
set_option maxHeartbeats 8000000 in
set_option maxRecDepth 100000 in
theorem spec_l2Write.calls (k : Nat) (a0 : ByteArray) (a1 : Int) (a2 : ByteArray) (r : ByteArray) (w : World) (h : spec_l2Write.f k a0 a1 a2 = some r) :
    Calls Try.prog 77 #[.string a0, .int .i64 a1, .string a2] w fun e w' => e = .returned (.string r) ∧ Drawn0 w w' := by
  have H : ((spec_l2Long.f k a0 a1).bind fun t1139 => (if 0 ≤ a1 then (if a1 ≤ (t1139.size : Int) then (if (t1139.extract 0 (a1 : Int).toNat).size + a2.size ≤ 9223372036854775807 then ((spec_l1Min.f (t1139.size : Int) (wrap64 (a1 + (a2.size : Int)))).bind fun t1140 => (if 0 ≤ t1140 then (if t1140 ≤ (t1139.size : Int) then (if ((t1139.extract 0 (a1 : Int).toNat) ++ a2).size + (t1139.extract (t1140 : Int).toNat t1139.size).size ≤ 9223372036854775807 then (some (((t1139.extract 0 (a1 : Int).toNat) ++ a2) ++ (t1139.extract (t1140 : Int).toNat t1139.size))) else (none)) else (none)) else (none))) else (none)) else (none)) else (none))) = some r := h
  clear h
  replace H := Option.bind_eq_some_iff.mp H
  obtain ⟨t1139, A40, H⟩ := H
  replace H : (if 0 ≤ a1 then (if a1 ≤ (t1139.size : Int) then (if (t1139.extract 0 (a1 : Int).toNat).size + a2.size ≤ 9223372036854775807 then ((spec_l1Min.f (t1139.size : Int) (wrap64 (a1 + (a2.size : Int)))).bind fun t1140 => (if 0 ≤ t1140 then (if t1140 ≤ (t1139.size : Int) then (if ((t1139.extract 0 (a1 : Int).toNat) ++ a2).size + (t1139.extract (t1140 : Int).toNat t1139.size).size ≤ 9223372036854775807 then (some (((t1139.extract 0 (a1 : Int).toNat) ++ a2) ++ (t1139.extract (t1140 : Int).toNat t1139.size))) else (none)) else (none)) else (none))) else (none)) else (none)) else (none)) = some r := H
  have A4 := Aside0.mk A40
  clear A40
  by_cases c5 : 0 ≤ a1
  · rw [if_pos c5] at H
    have c5b0 := eq_true c5
    have c5b1 : decide (0 ≤ a1) = true := decide_eq_true c5
    clear c5
    by_cases c6 : a1 ≤ (t1139.size : Int)
    · rw [if_pos c6] at H
      have c6b0 := eq_true c6
      have c6b1 : decide (a1 ≤ (t1139.size : Int)) = true := decide_eq_true c6
      clear c6
      by_cases c7 : (t1139.extract 0 (a1 : Int).toNat).size + a2.size ≤ 9223372036854775807
      · rw [if_pos c7] at H
        have c7b0 := eq_true c7
        have c7b1 : decide ((t1139.extract 0 (a1 : Int).toNat).size + a2.size ≤ 9223372036854775807) = true := decide_eq_true c7
        try have c7b2 : (9223372036854775807 < (t1139.extract 0 (a1 : Int).toNat).size + a2.size) = False := eq_false (Nat.not_lt.2 c7)
        replace H := Option.bind_eq_some_iff.mp H
        obtain ⟨t1140, A80, H⟩ := H
        replace H : (if 0 ≤ t1140 then (if t1140 ≤ (t1139.size : Int) then (if ((t1139.extract 0 (a1 : Int).toNat) ++ a2).size + (t1139.extract (t1140 : Int).toNat t1139.size).size ≤ 9223372036854775807 then (some (((t1139.extract 0 (a1 : Int).toNat) ++ a2) ++ (t1139.extract (t1140 : Int).toNat t1139.size))) else (none)) else (none)) else (none)) = some r := H
        have A8 := Aside0.mk A80
        clear A80
        by_cases c9 : 0 ≤ t1140
        · rw [if_pos c9] at H
          have c9b0 := eq_true c9
          have c9b1 : decide (0 ≤ t1140) = true := decide_eq_true c9
          clear c9
          by_cases c10 : t1140 ≤ (t1139.size : Int)
          · rw [if_pos c10] at H
            have c10b0 := eq_true c10
            have c10b1 : decide (t1140 ≤ (t1139.size : Int)) = true := decide_eq_true c10
            clear c10
            by_cases c11 : ((t1139.extract 0 (a1 : Int).toNat) ++ a2).size + (t1139.extract (t1140 : Int).toNat t1139.size).size ≤ 9223372036854775807
            · rw [if_pos c11] at H
              have c11b0 := eq_true c11
              have c11b1 : decide (((t1139.extract 0 (a1 : Int).toNat) ++ a2).size + (t1139.extract (t1140 : Int).toNat t1139.size).size ≤ 9223372036854775807) = true := decide_eq_true c11
              try have c11b2 : (9223372036854775807 < ((t1139.extract 0 (a1 : Int).toNat) ++ a2).size + (t1139.extract (t1140 : Int).toNat t1139.size).size) = False := eq_false (Nat.not_lt.2 c11)
              obtain rfl := Option.some.inj H
              go_enter Try.func77, Try.ntmps77
              go_wp2_with (first | (go_at_call 80; (with_reducible refine (spec_l2Long.calls k a0 a1 t1139 _ A4.out).mono ?_); rintro e w' ⟨rfl, ⟨nd, rfl⟩⟩; (try first | exact ⟨rfl, _, World.drewN_drewN _ _ _⟩ | exact ⟨rfl, _, Eq.trans (World.drewN_drewN _ _ _) (congrArg (World.drewN _) (Nat.add_assoc _ _ _))⟩)) | (go_at_call 75; (with_reducible refine (spec_l1Min.calls (t1139.size : Int) (wrap64 (a1 + (a2.size : Int))) t1140 _ A8.out).mono ?_); rintro e w' ⟨rfl, ⟨nd, rfl⟩⟩; (try first | exact ⟨rfl, _, World.drewN_drewN _ _ _⟩ | exact ⟨rfl, _, Eq.trans (World.drewN_drewN _ _ _) (congrArg (World.drewN _) (Nat.add_assoc _ _ _))⟩)))
              repeat (go_quiet (first | (go_at_call 80; (with_reducible refine (spec_l2Long.calls k a0 a1 t1139 _ A4.out).mono ?_); rintro e w' ⟨rfl, ⟨nd, rfl⟩⟩; (try first | exact ⟨rfl, _, World.drewN_drewN _ _ _⟩ | exact ⟨rfl, _, Eq.trans (World.drewN_drewN _ _ _) (congrArg (World.drewN _) (Nat.add_assoc _ _ _))⟩)) | (go_at_call 75; (with_reducible refine (spec_l1Min.calls (t1139.size : Int) (wrap64 (a1 + (a2.size : Int))) t1140 _ A8.out).mono ?_); rintro e w' ⟨rfl, ⟨nd, rfl⟩⟩; (try first | exact ⟨rfl, _, World.drewN_drewN _ _ _⟩ | exact ⟨rfl, _, Eq.trans (World.drewN_drewN _ _ _) (congrArg (World.drewN _) (Nat.add_assoc _ _ _))⟩))); try go_wp2_with (first | (go_at_call 80; (with_reducible refine (spec_l2Long.calls k a0 a1 t1139 _ A4.out).mono ?_); rintro e w' ⟨rfl, ⟨nd, rfl⟩⟩; (try first | exact ⟨rfl, _, World.drewN_drewN _ _ _⟩ | exact ⟨rfl, _, Eq.trans (World.drewN_drewN _ _ _) (congrArg (World.drewN _) (Nat.add_assoc _ _ _))⟩)) | (go_at_call 75; (with_reducible refine (spec_l1Min.calls (t1139.size : Int) (wrap64 (a1 + (a2.size : Int))) t1140 _ A8.out).mono ?_); rintro e w' ⟨rfl, ⟨nd, rfl⟩⟩; (try first | exact ⟨rfl, _, World.drewN_drewN _ _ _⟩ | exact ⟨rfl, _, Eq.trans (World.drewN_drewN _ _ _) (congrArg (World.drewN _) (Nat.add_assoc _ _ _))⟩))))
              go_ret
              exact ⟨by first | rfl | (simp; done) | (simp [*]; done), by repeat (first | exact Drawn0.refl _ | apply Drawn0.step)⟩
            · rw [if_neg c11] at H
              exact absurd H (by simp)
          · rw [if_neg c10] at H
            exact absurd H (by simp)
        · rw [if_neg c9] at H
          exact absurd H (by simp)
      · rw [if_neg c7] at H
        exact absurd H (by simp)
    · rw [if_neg c6] at H
      exact absurd H (by simp)
  · rw [if_neg c5] at H
    exact absurd H (by simp)
end Go.Proofs.Ytolmblfffnnabaa.P
namespace Go.Proofs.Ytolmblfffnnabaa.Sh
open Go.Shelf Go.RowKit Go.Lib
def rep_ren : Go.Shelf.Ren := ⟨fun | 105 => 81 | 212 => 82 | 99 => 83 | 165 => 84 | 166 => 85 | 170 => 86 | 169 => 87 | 263 => 88 | 264 => 89 | 206 => 90 | 240 => 91 | 241 => 92 | 276 => 93 | 277 => 94 | n => n, fun | 9 => 9 | 3 => 3 | 4 => 4 | 20 => 20 | 0 => 0 | 46 => 84 | 109 => 85 | 5 => 5 | 72 => 90 | 76 => 94 | 51 => 98 | 146 => 99 | 53 => 101 | 148 => 102 | 70 => 88 | 37 => 81 | 75 => 93 | 127 => 104 | 164 => 105 | 80 => 97 | n => n, fun | n => n⟩
theorem rep_lays : Go.Proofs.Lays.n105 Try.prog rep_ren := {
  mixed := by kernel_rfl
  f99 := Try.func83.trans (congrArg some (by kernel_rfl))
  f105 := Try.func81.trans (congrArg some (by kernel_rfl))
  f165 := Try.func84.trans (congrArg some (by kernel_rfl))
  f166 := Try.func85.trans (congrArg some (by kernel_rfl))
  f169 := Try.func87.trans (congrArg some (by kernel_rfl))
  f170 := Try.func86.trans (congrArg some (by kernel_rfl))
  f206 := Try.func90.trans (congrArg some (by kernel_rfl))
  f212 := Try.func82.trans (congrArg some (by kernel_rfl))
  f240 := Try.func91.trans (congrArg some (by kernel_rfl))
  f241 := Try.func92.trans (congrArg some (by kernel_rfl))
  f263 := Try.func88.trans (congrArg some (by kernel_rfl))
  f264 := Try.func89.trans (congrArg some (by kernel_rfl))
  f276 := Try.func93.trans (congrArg some (by kernel_rfl))
  f277 := Try.func94.trans (congrArg some (by kernel_rfl))
  t0 := Try.underlying0
  a0 := Try.isAgg0
  z0 := Try.sizeOf0
  v0 := Try.zeroValue0
  t3 := Try.underlying3
  a3 := Try.isAgg3
  z3 := Try.sizeOf3
  v3 := Try.zeroValue3
  t4 := Try.underlying4
  a4 := Try.isAgg4
  z4 := Try.sizeOf4
  v4 := Try.zeroValue4
  t5 := Try.underlying5
  a5 := Try.isAgg5
  z5 := Try.sizeOf5
  v5 := Try.zeroValue5
  t9 := Try.underlying9
  a9 := Try.isAgg9
  z9 := Try.sizeOf9
  v9 := Try.zeroValue9
  t20 := Try.underlying20
  a20 := Try.isAgg20
  z20 := Try.sizeOf20
  v20 := Try.zeroValue20
  t37 := Try.underlying81
  a37 := Try.isAgg81
  z37 := Try.sizeOf81
  v37 := Try.zeroValue81
  t46 := Try.underlying84
  a46 := Try.isAgg84
  z46 := Try.sizeOf84
  v46 := Try.zeroValue84
  t51 := Try.underlying98
  a51 := Try.isAgg98
  z51 := Try.sizeOf98
  v51 := Try.zeroValue98
  t53 := Try.underlying101
  a53 := Try.isAgg101
  z53 := Try.sizeOf101
  v53 := Try.zeroValue101
  t70 := Try.underlying88
  a70 := Try.isAgg88
  z70 := Try.sizeOf88
  v70 := Try.zeroValue88
  t72 := Try.underlying90
  a72 := Try.isAgg90
  z72 := Try.sizeOf90
  v72 := Try.zeroValue90
  t75 := Try.underlying93
  a75 := Try.isAgg93
  z75 := Try.sizeOf93
  v75 := Try.zeroValue93
  t76 := Try.underlying94
  a76 := Try.isAgg94
  z76 := Try.sizeOf94
  v76 := Try.zeroValue94
  t109 := Try.underlying85
  a109 := Try.isAgg85
  z109 := Try.sizeOf85
  v109 := Try.zeroValue85
  t127 := Try.underlying104
  a127 := Try.isAgg104
  z127 := Try.sizeOf104
  v127 := Try.zeroValue104
  t146 := Try.underlying99
  a146 := Try.isAgg99
  z146 := Try.sizeOf99
  v146 := Try.zeroValue99
  t148 := Try.underlying102
  a148 := Try.isAgg102
  z148 := Try.sizeOf102
  v148 := Try.zeroValue102
  t164 := Try.underlying105
  a164 := Try.isAgg105
  z164 := Try.sizeOf105
  v164 := Try.zeroValue105 }
theorem rep_extra : Builder.Extra Try.prog rep_ren := {
  sizeBuilder := by kernel_rfl
  liesBuilder := by kernel_rfl
  t5 := Try.underlying5
  a5 := Try.isAgg5
  z5 := Try.sizeOf5
  v5 := Try.zeroValue5
  infoByte := by kernel_rfl
  cellsByte := by kernel_rfl
  sizeByte := by kernel_rfl
  neB5 := by decide }
theorem strings_Repeat (s : ByteArray) (c : Nat) (w : World) (hc : c ≤ 9223372036854775807) (hlen : s.size * c ≤ 140737488355328) :
    Calls Try.prog 81 #[.string s, .int .i64 c] w fun e w' => e = .returned (.string ⟨(Lib.repeatL s.data.toList c).toArray⟩) ∧ Below w.heap.size w w' := Any.strings_Repeat rep_lays rep_extra s c w hc hlen
end Go.Proofs.Ytolmblfffnnabaa.Sh
namespace Go.Proofs.Ytolmblfffnnabaa.P
open Go.RowKit Go.Proofs.YtolmblfffnnabaaW.PrintWords Go.Proofs.YtolmblfffnnabaaW.PrintLast Go.Proofs.YtolmblfffnnabaaW.PrintMore
set_option linter.unusedVariables false
set_option linter.unusedSimpArgs false
def dots (n : Nat) : ByteArray := ⟨(List.replicate n (46 : UInt8)).toArray⟩
theorem repeatL_dot : ∀ n, Lib.repeatL [(46 : UInt8)] n = List.replicate n 46
  | 0 => rfl
  | n + 1 => by
    have h := repeatL_dot n
    simp only [Lib.repeatL, List.replicate_succ] at h ⊢
    simp [h]
def impl_sized.f (a0 : ByteArray) (a1 : Int) : Option (ByteArray) := if a1 ≤ (a0.size : Int) then (if 0 ≤ a1 then some (a0.extract 0 a1.toNat) else none) else (if a1 ≤ 4096 then some (a0 ++ dots (a1.toNat - a0.size)) else none)
set_option maxHeartbeats 1000000 in
set_option maxRecDepth 100000 in
theorem impl_sized.calls (a0 : ByteArray) (a1 : Int) (r : ByteArray) (w : World) (h : impl_sized.f a0 a1 = some r) :
    Calls Try.prog 78 #[.string a0, .int .i64 a1] w fun e w' => e = .returned (.string r) ∧ Below w.heap.size w w' := by
  unfold impl_sized.f at h
  by_cases c1 : a1 ≤ (a0.size : Int)
  · rw [if_pos c1] at h
    by_cases c2 : 0 ≤ a1
    · rw [if_pos c2] at h
      obtain rfl := Option.some.inj h
      clear h
      obtain ⟨n, rfl⟩ := Int.eq_ofNat_of_zero_le c2
      have c3 : n ≤ a0.size := by omega
      have c4 : decide ((n : Int) ≤ (a0.size : Int)) = true := decide_eq_true c1
      have c5 : decide (n ≤ a0.size) = true := decide_eq_true c3
      clear c1
      go_enter Try.func78, Try.ntmps78
      go_wp2
      go_ret
      exact ⟨by simp, Below.refl _ _⟩
    · rw [if_neg c2] at h
      cases h
  · rw [if_neg c1] at h
    by_cases c2 : a1 ≤ 4096
    · rw [if_pos c2] at h
      obtain rfl := Option.some.inj h
      clear h
      obtain ⟨n, rfl⟩ : ∃ n : Nat, a1 = (a0.size : Int) + (n : Int) := ⟨(a1 - a0.size).toNat, by omega⟩
      have c4 : decide ((a0.size : Int) + (n : Int) ≤ (a0.size : Int)) = false := decide_eq_false c1
      have hn : 0 < n := by omega
      have hb : a0.size + n ≤ 4096 := by omega
      have hw : wrap64 ((a0.size : Int) + (n : Int) - (a0.size : Int)) = (n : Int) := by unfold wrap64; omega
      have e1 : ((a0.size : Int) + (n : Int)).toNat - a0.size = n := by omega
      rw [e1]
      clear e1 c1 c2
      go_enter Try.func78, Try.ntmps78
      go_wp2_with fail
      rw [show ((a0.size : Int) + (n : Int) - (a0.size : Int)) = (n : Int) from by omega]
      refine (Sh.strings_Repeat _ n _ (by omega) (by simp [ByteArray.size]; omega)).mono ?_
      rintro e w1 ⟨rfl, hb1⟩
      have hd : (⟨(Lib.repeatL (⟨#[46]⟩ : ByteArray).data.toList n).toArray⟩ : ByteArray) = dots n := by unfold dots; rw [show (⟨#[46]⟩ : ByteArray).data.toList = [(46 : UInt8)] from rfl, repeatL_dot]
      rw [hd]
      have hs : (dots n).size = n := by simp [dots, ByteArray.size]
      have hm : a0.size + (dots n).size ≤ 9223372036854775807 := by rw [hs]; omega
      have HB := Aside0.mk hb1
      clear hb1 hd hs
      go_wp2
      go_ret
      exact ⟨by simp, HB.out⟩
    · rw [if_neg c2] at h
      cases h
end Go.Proofs.Ytolmblfffnnabaa.P
namespace Go.Proofs.Ytolmblfffnnabaa.P
open Go.RowKit Go.Proofs.YtolmblfffnnabaaW.PrintWords Go.Proofs.YtolmblfffnnabaaW.PrintLast Go.Proofs.YtolmblfffnnabaaW.PrintMore
attribute [local go_sem] max2_int min2_int max_two min_two max_three min_three max_four min_four   
set_option linter.unusedVariables false
set_option linter.unusedSimpArgs false
theorem tw_world_at {Q : World → Prop} {w W0 : World} (hb : Below w.heap.size w W0) (h : ∀ W, Below w.heap.size w W → Q W) : Q W0 := h W0 hb
def impl_TextWrite.f (k : Nat) (a0 : ByteArray) (a1 : Int) (a2 : ByteArray) : Option (ByteArray × Bool) := (impl_TextOk.f k a0).bind fun t1211 => (if t1211 = true then (if a1 < 0 then (some (a0, false)) else (if a1 > 48 then (some (a0, false)) else (if a2.toList = ([] : List UInt8) then (some (a0, false)) else ((impl_TextOk.f k a2).bind fun t1212 => (if t1212 = true then (if (wrap64 (a1 + (a2.size : Int))) > 48 then (some (a0, false)) else ((impl_sized.f a0 (mx (a0.size : Int) (wrap64 (a1 + (a2.size : Int))))).bind fun t1213 => (if 0 ≤ a1 then (if a1 ≤ (t1213.size : Int) then (if (t1213.extract 0 (a1 : Int).toNat).size + a2.size ≤ 9223372036854775807 then (if 0 ≤ (mn (wrap64 (a1 + (a2.size : Int))) (a0.size : Int)) then (if (mn (wrap64 (a1 + (a2.size : Int))) (a0.size : Int)) ≤ (a0.size : Int) then (if ((t1213.extract 0 (a1 : Int).toNat) ++ a2).size + (a0.extract ((mn (wrap64 (a1 + (a2.size : Int))) (a0.size : Int)) : Int).toNat a0.size).size ≤ 9223372036854775807 then (some (((t1213.extract 0 (a1 : Int).toNat) ++ a2) ++ (a0.extract ((mn (wrap64 (a1 + (a2.size : Int))) (a0.size : Int)) : Int).toNat a0.size), true)) else (none)) else (none)) else (none)) else (none)) else (none)) else (none)))) else (some (a0, false))))))) else (some ((⟨#[]⟩ : ByteArray), false)))
def impl_TextWrite.T6 : Bool × List (List Nat × List Nat) := (true, [([], []), ([], []), ([1], [1]), ([], []), ([2, 3], [2, 3]), ([0, 4], [0, 4]), ([], []), ([5, 6], [5, 6]), ([], []), ([7, 8], [7, 8]), ([], []), ([], []), ([], []), ([12], [12]), ([11, 13], [11, 13]), ([10, 14], [10, 14]), ([9, 15], [9, 15]), ([16, 5, 0, 1, 2, 3, 4, 5, 6, 7, 8, 9, 10, 11, 12, 13, 14, 15, 16], [16]), ([17, 0, 1, 2, 3, 4, 5, 6, 7, 8, 9, 10, 11, 12, 13, 14, 15, 16, 17], [])])
def impl_TextWrite.B6 : List Nat := [0, 0, 2, 0, 14, 31, 0, 127, 0, 511, 0, 0, 0, 4096, 14336, 31744, 65535, 131071, 262143]
theorem impl_TextWrite.tab6 : rtab .any (opsOf Try.f73 6) = impl_TextWrite.T6 := by kernel_rfl
theorem impl_TextWrite.bits6 : waitsOk impl_TextWrite.T6.2 impl_TextWrite.B6 = true := by kernel_rfl
set_option maxHeartbeats 8000000 in
set_option maxRecDepth 100000 in
theorem impl_TextWrite.calls (k : Nat) (a0 : ByteArray) (a1 : Int) (a2 : ByteArray) (r1 : ByteArray) (r2 : Bool) (w : World) (h : impl_TextWrite.f k a0 a1 a2 = some (r1, r2)) :
    Calls Try.prog 73 #[.string a0, .int .i64 a1, .string a2] w fun e w' => e = .returned (.tuple #[.string r1, .bool r2]) ∧ Below w.heap.size w w' := by
  have HB := Aside0.mk (Below.refl w.heap.size w)
  have H : ((impl_TextOk.f k a0).bind fun t1211 => (if t1211 = true then (if a1 < 0 then (some (a0, false)) else (if a1 > 48 then (some (a0, false)) else (if a2.toList = ([] : List UInt8) then (some (a0, false)) else ((impl_TextOk.f k a2).bind fun t1212 => (if t1212 = true then (if (wrap64 (a1 + (a2.size : Int))) > 48 then (some (a0, false)) else ((impl_sized.f a0 (mx (a0.size : Int) (wrap64 (a1 + (a2.size : Int))))).bind fun t1213 => (if 0 ≤ a1 then (if a1 ≤ (t1213.size : Int) then (if (t1213.extract 0 (a1 : Int).toNat).size + a2.size ≤ 9223372036854775807 then (if 0 ≤ (mn (wrap64 (a1 + (a2.size : Int))) (a0.size : Int)) then (if (mn (wrap64 (a1 + (a2.size : Int))) (a0.size : Int)) ≤ (a0.size : Int) then (if ((t1213.extract 0 (a1 : Int).toNat) ++ a2).size + (a0.extract ((mn (wrap64 (a1 + (a2.size : Int))) (a0.size : Int)) : Int).toNat a0.size).size ≤ 9223372036854775807 then (some (((t1213.extract 0 (a1 : Int).toNat) ++ a2) ++ (a0.extract ((mn (wrap64 (a1 + (a2.size : Int))) (a0.size : Int)) : Int).toNat a0.size), true)) else (none)) else (none)) else (none)) else (none)) else (none)) else (none)))) else (some (a0, false))))))) else (some ((⟨#[]⟩ : ByteArray), false)))) = some (r1, r2) := h
  clear h
  replace H := Option.bind_eq_some_iff.mp H
  obtain ⟨t1211, A40, H⟩ := H
  replace H : (if t1211 = true then (if a1 < 0 then (some (a0, false)) else (if a1 > 48 then (some (a0, false)) else (if a2.toList = ([] : List UInt8) then (some (a0, false)) else ((impl_TextOk.f k a2).bind fun t1212 => (if t1212 = true then (if (wrap64 (a1 + (a2.size : Int))) > 48 then (some (a0, false)) else ((impl_sized.f a0 (mx (a0.size : Int) (wrap64 (a1 + (a2.size : Int))))).bind fun t1213 => (if 0 ≤ a1 then (if a1 ≤ (t1213.size : Int) then (if (t1213.extract 0 (a1 : Int).toNat).size + a2.size ≤ 9223372036854775807 then (if 0 ≤ (mn (wrap64 (a1 + (a2.size : Int))) (a0.size : Int)) then (if (mn (wrap64 (a1 + (a2.size : Int))) (a0.size : Int)) ≤ (a0.size : Int) then (if ((t1213.extract 0 (a1 : Int).toNat) ++ a2).size + (a0.extract ((mn (wrap64 (a1 + (a2.size : Int))) (a0.size : Int)) : Int).toNat a0.size).size ≤ 9223372036854775807 then (some (((t1213.extract 0 (a1 : Int).toNat) ++ a2) ++ (a0.extract ((mn (wrap64 (a1 + (a2.size : Int))) (a0.size : Int)) : Int).toNat a0.size), true)) else (none)) else (none)) else (none)) else (none)) else (none)) else (none)))) else (some (a0, false))))))) else (some ((⟨#[]⟩ : ByteArray), false))) = some (r1, r2) := H
  have A4 := Aside0.mk A40
  clear A40
  by_cases c5 : t1211 = true
  · subst c5
    have H1 : (if a1 < 0 then (some (a0, false)) else (if a1 > 48 then (some (a0, false)) else (if a2.toList = ([] : List UInt8) then (some (a0, false)) else ((impl_TextOk.f k a2).bind fun t1212 => (if t1212 = true then (if (wrap64 (a1 + (a2.size : Int))) > 48 then (some (a0, false)) else ((impl_sized.f a0 (mx (a0.size : Int) (wrap64 (a1 + (a2.size : Int))))).bind fun t1213 => (if 0 ≤ a1 then (if a1 ≤ (t1213.size : Int) then (if (t1213.extract 0 (a1 : Int).toNat).size + a2.size ≤ 9223372036854775807 then (if 0 ≤ (mn (wrap64 (a1 + (a2.size : Int))) (a0.size : Int)) then (if (mn (wrap64 (a1 + (a2.size : Int))) (a0.size : Int)) ≤ (a0.size : Int) then (if ((t1213.extract 0 (a1 : Int).toNat) ++ a2).size + (a0.extract ((mn (wrap64 (a1 + (a2.size : Int))) (a0.size : Int)) : Int).toNat a0.size).size ≤ 9223372036854775807 then (some (((t1213.extract 0 (a1 : Int).toNat) ++ a2) ++ (a0.extract ((mn (wrap64 (a1 + (a2.size : Int))) (a0.size : Int)) : Int).toNat a0.size), true)) else (none)) else (none)) else (none)) else (none)) else (none)) else (none)))) else (some (a0, false))))))) = some (r1, r2) := by rw [if_pos rfl] at H; exact H
    clear H
    have H := H1
    clear H1
    by_cases c6 : a1 < 0
    · rw [if_pos c6] at H
      have c6b0 : decide (a1 < 0) = true := decide_eq_true c6
      clear c6
      simp only [Option.some.injEq, Prod.mk.injEq] at H
      obtain ⟨rfl, rfl⟩ := H
      go_enter Try.func73, Try.ntmps73
      go_wp2_with (first | ((with_reducible refine gate_callee (f := 57) rfl ?_); refine goesL_ (some 10) rfl rfl Try.func57 (by kernel_rfl) rfl #[.string a0] rfl (by (try simp only [List.map_toArray, List.map_cons, List.map_nil]); first | done | rfl | (simp only [List.length_drop, List.length_take]; rfl)) ?_; (with_reducible refine (impl_TextOk.calls k a0 true _ A4.out).mono ?_); rintro e w' ⟨rfl, ⟨nd, rfl⟩⟩; refine ⟨_, rfl, ?_⟩))
      go_ret2
      exact ⟨by first | rfl | (simp [errW_none, errW_some] <;> rfl) | (simp [*, errW_none, errW_some] <;> rfl), by repeat (first | (with_reducible first | exact HB.out | apply below_alloc | apply pw_below_drewN | apply below_drew1) | exact HB.out)⟩
    · rw [if_neg c6] at H
      have c6b0 : decide (a1 < 0) = false := decide_eq_false c6
      clear c6
      by_cases c7 : a1 > 48
      · rw [if_pos c7] at H
        have c7b0 : decide (48 < a1) = true := decide_eq_true c7
        clear c7
        simp only [Option.some.injEq, Prod.mk.injEq] at H
        obtain ⟨rfl, rfl⟩ := H
        go_enter Try.func73, Try.ntmps73
        go_wp2_with (first | ((with_reducible refine gate_callee (f := 57) rfl ?_); refine goesL_ (some 10) rfl rfl Try.func57 (by kernel_rfl) rfl #[.string a0] rfl (by (try simp only [List.map_toArray, List.map_cons, List.map_nil]); first | done | rfl | (simp only [List.length_drop, List.length_take]; rfl)) ?_; (with_reducible refine (impl_TextOk.calls k a0 true _ A4.out).mono ?_); rintro e w' ⟨rfl, ⟨nd, rfl⟩⟩; refine ⟨_, rfl, ?_⟩))
        go_ret2
        exact ⟨by first | rfl | (simp [errW_none, errW_some] <;> rfl) | (simp [*, errW_none, errW_some] <;> rfl), by repeat (first | (with_reducible first | exact HB.out | apply below_alloc | apply pw_below_drewN | apply below_drew1) | exact HB.out)⟩
      · rw [if_neg c7] at H
        have c7b0 : decide (48 < a1) = false := decide_eq_false c7
        clear c7
        by_cases c8 : a2.toList = ([] : List UInt8)
        · rw [if_pos c8] at H
          have c8b0 : (a2.toList == ([] : List UInt8)) = true := beq_iff_eq.mpr c8
          have c8b1 : (a2.toList != ([] : List UInt8)) = false := bne_eq_false_iff_eq.mpr c8
          clear c8
          simp only [Option.some.injEq, Prod.mk.injEq] at H
          obtain ⟨rfl, rfl⟩ := H
          go_enter Try.func73, Try.ntmps73
          go_wp2_with (first | ((with_reducible refine gate_callee (f := 57) rfl ?_); refine goesL_ (some 10) rfl rfl Try.func57 (by kernel_rfl) rfl #[.string a0] rfl (by (try simp only [List.map_toArray, List.map_cons, List.map_nil]); first | done | rfl | (simp only [List.length_drop, List.length_take]; rfl)) ?_; (with_reducible refine (impl_TextOk.calls k a0 true _ A4.out).mono ?_); rintro e w' ⟨rfl, ⟨nd, rfl⟩⟩; refine ⟨_, rfl, ?_⟩))
          go_ret2
          exact ⟨by first | rfl | (simp [errW_none, errW_some] <;> rfl) | (simp [*, errW_none, errW_some] <;> rfl), by repeat (first | (with_reducible first | exact HB.out | apply below_alloc | apply pw_below_drewN | apply below_drew1) | exact HB.out)⟩
        · rw [if_neg c8] at H
          have c8b0 : (a2.toList == ([] : List UInt8)) = false := beq_eq_false_iff_ne.mpr c8
          have c8b1 : (a2.toList != ([] : List UInt8)) = true := bne_iff_ne.mpr c8
          replace H := Option.bind_eq_some_iff.mp H
          obtain ⟨t1212, A90, H⟩ := H
          replace H : (if t1212 = true then (if (wrap64 (a1 + (a2.size : Int))) > 48 then (some (a0, false)) else ((impl_sized.f a0 (mx (a0.size : Int) (wrap64 (a1 + (a2.size : Int))))).bind fun t1213 => (if 0 ≤ a1 then (if a1 ≤ (t1213.size : Int) then (if (t1213.extract 0 (a1 : Int).toNat).size + a2.size ≤ 9223372036854775807 then (if 0 ≤ (mn (wrap64 (a1 + (a2.size : Int))) (a0.size : Int)) then (if (mn (wrap64 (a1 + (a2.size : Int))) (a0.size : Int)) ≤ (a0.size : Int) then (if ((t1213.extract 0 (a1 : Int).toNat) ++ a2).size + (a0.extract ((mn (wrap64 (a1 + (a2.size : Int))) (a0.size : Int)) : Int).toNat a0.size).size ≤ 9223372036854775807 then (some (((t1213.extract 0 (a1 : Int).toNat) ++ a2) ++ (a0.extract ((mn (wrap64 (a1 + (a2.size : Int))) (a0.size : Int)) : Int).toNat a0.size), true)) else (none)) else (none)) else (none)) else (none)) else (none)) else (none)))) else (some (a0, false))) = some (r1, r2) := H
          have A9 := Aside0.mk A90
          clear A90
          by_cases c10 : t1212 = true
          · subst c10
            have H1 : (if (wrap64 (a1 + (a2.size : Int))) > 48 then (some (a0, false)) else ((impl_sized.f a0 (mx (a0.size : Int) (wrap64 (a1 + (a2.size : Int))))).bind fun t1213 => (if 0 ≤ a1 then (if a1 ≤ (t1213.size : Int) then (if (t1213.extract 0 (a1 : Int).toNat).size + a2.size ≤ 9223372036854775807 then (if 0 ≤ (mn (wrap64 (a1 + (a2.size : Int))) (a0.size : Int)) then (if (mn (wrap64 (a1 + (a2.size : Int))) (a0.size : Int)) ≤ (a0.size : Int) then (if ((t1213.extract 0 (a1 : Int).toNat) ++ a2).size + (a0.extract ((mn (wrap64 (a1 + (a2.size : Int))) (a0.size : Int)) : Int).toNat a0.size).size ≤ 9223372036854775807 then (some (((t1213.extract 0 (a1 : Int).toNat) ++ a2) ++ (a0.extract ((mn (wrap64 (a1 + (a2.size : Int))) (a0.size : Int)) : Int).toNat a0.size), true)) else (none)) else (none)) else (none)) else (none)) else (none)) else (none)))) = some (r1, r2) := by rw [if_pos rfl] at H; exact H
            clear H
            have H := H1
            clear H1
            by_cases c11 : (wrap64 (a1 + (a2.size : Int))) > 48
            · rw [if_pos c11] at H
              have c11b0 : decide (48 < (wrap64 (a1 + (a2.size : Int)))) = true := decide_eq_true c11
              clear c11
              simp only [Option.some.injEq, Prod.mk.injEq] at H
              obtain ⟨rfl, rfl⟩ := H
              go_enter Try.func73, Try.ntmps73
              go_wp2_with (first | ((with_reducible refine gate_callee (f := 57) rfl ?_); refine goesL_ (some 10) rfl rfl Try.func57 (by kernel_rfl) rfl #[.string a0] rfl (by (try simp only [List.map_toArray, List.map_cons, List.map_nil]); first | done | rfl | (simp only [List.length_drop, List.length_take]; rfl)) ?_; (with_reducible refine (impl_TextOk.calls k a0 true _ A4.out).mono ?_); rintro e w' ⟨rfl, ⟨nd, rfl⟩⟩; refine ⟨_, rfl, ?_⟩) | (go_at_call 57; (with_reducible refine (impl_TextOk.calls k a2 true _ A9.out).mono ?_); rintro e w' ⟨rfl, ⟨nd, rfl⟩⟩))
              go_ret2
              exact ⟨by first | rfl | (simp [errW_none, errW_some] <;> rfl) | (simp [*, errW_none, errW_some] <;> rfl), by repeat (first | (with_reducible first | exact HB.out | apply below_alloc | apply pw_below_drewN | apply below_drew1) | exact HB.out)⟩
            · rw [if_neg c11] at H
              have c11b0 : decide (48 < (wrap64 (a1 + (a2.size : Int)))) = false := decide_eq_false c11
              clear c11
              obtain ⟨ji12, hji12⟩ : ∃ j_ : Int, (mx (a0.size : Int) (wrap64 (a1 + (a2.size : Int)))) = j_ := ⟨_, rfl⟩
              replace H : ((impl_sized.f a0 (ji12)).bind fun t1213 => (if 0 ≤ a1 then (if a1 ≤ (t1213.size : Int) then (if (t1213.extract 0 (a1 : Int).toNat).size + a2.size ≤ 9223372036854775807 then (if 0 ≤ (mn (wrap64 (a1 + (a2.size : Int))) (a0.size : Int)) then (if (mn (wrap64 (a1 + (a2.size : Int))) (a0.size : Int)) ≤ (a0.size : Int) then (if ((t1213.extract 0 (a1 : Int).toNat) ++ a2).size + (a0.extract ((mn (wrap64 (a1 + (a2.size : Int))) (a0.size : Int)) : Int).toNat a0.size).size ≤ 9223372036854775807 then (some (((t1213.extract 0 (a1 : Int).toNat) ++ a2) ++ (a0.extract ((mn (wrap64 (a1 + (a2.size : Int))) (a0.size : Int)) : Int).toNat a0.size), true)) else (none)) else (none)) else (none)) else (none)) else (none)) else (none))) = some (r1, r2) := by first | (rw [hji12] at H; exact H) | (simp only [hji12] at H ⊢; exact H)
              (try rw [hji12] at A4)
              (try rw [hji12] at A9)
              (try (have hji12l : 0 ≤ ji12 := by (rw [← hji12]; unfold mx; (repeat' split) <;> omega)))
              (try (have hji12m : 0 ≤ ji12 := by omega))
              have hji12_ : (if (a0.size : Int) < (wrap64 (a1 + (a2.size : Int))) then (wrap64 (a1 + (a2.size : Int))) else (a0.size : Int)) = ji12 := hji12
              replace H := Option.bind_eq_some_iff.mp H
              obtain ⟨t1213, A130, H⟩ := H
              replace H : (if 0 ≤ a1 then (if a1 ≤ (t1213.size : Int) then (if (t1213.extract 0 (a1 : Int).toNat).size + a2.size ≤ 9223372036854775807 then (if 0 ≤ (mn (wrap64 (a1 + (a2.size : Int))) (a0.size : Int)) then (if (mn (wrap64 (a1 + (a2.size : Int))) (a0.size : Int)) ≤ (a0.size : Int) then (if ((t1213.extract 0 (a1 : Int).toNat) ++ a2).size + (a0.extract ((mn (wrap64 (a1 + (a2.size : Int))) (a0.size : Int)) : Int).toNat a0.size).size ≤ 9223372036854775807 then (some (((t1213.extract 0 (a1 : Int).toNat) ++ a2) ++ (a0.extract ((mn (wrap64 (a1 + (a2.size : Int))) (a0.size : Int)) : Int).toNat a0.size), true)) else (none)) else (none)) else (none)) else (none)) else (none)) else (none)) = some (r1, r2) := H
              have A13 := Aside0.mk A130
              clear A130
              by_cases c14 : 0 ≤ a1
              · rw [if_pos c14] at H
                have c14b0 := eq_true c14
                have c14b1 : decide (0 ≤ a1) = true := decide_eq_true c14
                clear c14
                by_cases c15 : a1 ≤ (t1213.size : Int)
                · rw [if_pos c15] at H
                  have c15b0 := eq_true c15
                  have c15b1 : decide (a1 ≤ (t1213.size : Int)) = true := decide_eq_true c15
                  clear c15
                  by_cases c16 : (t1213.extract 0 (a1 : Int).toNat).size + a2.size ≤ 9223372036854775807
                  · rw [if_pos c16] at H
                    have c16b0 := eq_true c16
                    have c16b1 : decide ((t1213.extract 0 (a1 : Int).toNat).size + a2.size ≤ 9223372036854775807) = true := decide_eq_true c16
                    try have c16b2 : (9223372036854775807 < (t1213.extract 0 (a1 : Int).toNat).size + a2.size) = False := eq_false (Nat.not_lt.2 c16)
                    obtain ⟨ji17, hji17⟩ : ∃ j_ : Int, (mn (wrap64 (a1 + (a2.size : Int))) (a0.size : Int)) = j_ := ⟨_, rfl⟩
                    replace H : (if 0 ≤ (ji17) then (if (ji17) ≤ (a0.size : Int) then (if ((t1213.extract 0 (a1 : Int).toNat) ++ a2).size + (a0.extract ((ji17) : Int).toNat a0.size).size ≤ 9223372036854775807 then (some (((t1213.extract 0 (a1 : Int).toNat) ++ a2) ++ (a0.extract ((ji17) : Int).toNat a0.size), true)) else (none)) else (none)) else (none)) = some (r1, r2) := by first | (rw [hji17] at H; exact H) | (simp only [hji17] at H ⊢; exact H)
                    (try rw [hji17] at A4)
                    (try rw [hji17] at A9)
                    (try rw [hji17] at A13)
                    have hji17_ : (if (a0.size : Int) < (wrap64 (a1 + (a2.size : Int))) then (a0.size : Int) else (wrap64 (a1 + (a2.size : Int)))) = ji17 := hji17
                    by_cases c18 : 0 ≤ (ji17)
                    · rw [if_pos c18] at H
                      have c18b0 := eq_true c18
                      have c18b1 : decide (0 ≤ (ji17)) = true := decide_eq_true c18
                      clear c18
                      by_cases c19 : (ji17) ≤ (a0.size : Int)
                      · rw [if_pos c19] at H
                        have c19b0 := eq_true c19
                        have c19b1 : decide ((ji17) ≤ (a0.size : Int)) = true := decide_eq_true c19
                        clear c19
                        by_cases c20 : ((t1213.extract 0 (a1 : Int).toNat) ++ a2).size + (a0.extract ((ji17) : Int).toNat a0.size).size ≤ 9223372036854775807
                        · rw [if_pos c20] at H
                          have c20b0 := eq_true c20
                          have c20b1 : decide (((t1213.extract 0 (a1 : Int).toNat) ++ a2).size + (a0.extract ((ji17) : Int).toNat a0.size).size ≤ 9223372036854775807) = true := decide_eq_true c20
                          try have c20b2 : (9223372036854775807 < ((t1213.extract 0 (a1 : Int).toNat) ++ a2).size + (a0.extract ((ji17) : Int).toNat a0.size).size) = False := eq_false (Nat.not_lt.2 c20)
                          simp only [Option.some.injEq, Prod.mk.injEq] at H
                          obtain ⟨rfl, rfl⟩ := H
                          go_enter Try.func73, Try.ntmps73
                          try go_wp2_with (first | ((with_reducible refine gate_callee (f := 57) rfl ?_); refine goesL_ (some 10) rfl rfl Try.func57 (by kernel_rfl) rfl #[.string a0] rfl (by (try simp only [List.map_toArray, List.map_cons, List.map_nil]); first | done | rfl | (simp only [List.length_drop, List.length_take]; rfl)) ?_; (with_reducible refine (impl_TextOk.calls k a0 true _ A4.out).mono ?_); rintro e w' ⟨rfl, ⟨nd, rfl⟩⟩; refine ⟨_, rfl, ?_⟩) | (go_at_call 57; (with_reducible refine (impl_TextOk.calls k a2 true _ A9.out).mono ?_); rintro e w' ⟨rfl, ⟨nd, rfl⟩⟩))
                          have hz1 : (9223372036854775807 < a1.toNat + a2.size) = False := eq_false (by have h1 := c16; have h2 := of_eq_true c15b0; rw [ByteArray.size_extract] at h1; omega)
                          have hz2 : (9223372036854775807 < a1.toNat + a2.size + (a0.size - ji17.toNat)) = False := eq_false (by have h1 := c20; have h2 := of_eq_true c15b0; have h3 := of_eq_true c19b0; rw [ByteArray.size_append, ByteArray.size_extract, ByteArray.size_extract] at h1; omega)
                          refine start_ (n := 19) (S := fun w' => True) (ds := []) #[false, false, false, false, false, false, false, false, false, false, false, false, false, false, false, false, false, false, false] (by kernel_rfl) rfl rfl trivial (fun hHeld => ?_); refine with_tabW impl_TextWrite.tab6 impl_TextWrite.bits6 (fun HT_ HW_ => ?_)
                          refine tw_world_at (w := w) (by repeat (first | (with_reducible first | exact HB.out | apply below_alloc | apply pw_below_drewN | apply below_drew1) | exact HB.out)) (fun w21 HBn_ => ?_)
                          clear HB hHeld
                          have hHeld : True := trivial
                          have HB := Aside0.mk HBn_
                          clear HBn_
                          refine pure_ (i := 0) (N := some 39) (v := ?_) (a' := ?_) #[true, false, false, false, false, false, false, false, false, false, false, false, false, false, false, false, false, false, false] rfl rfl (any_of HT_.out (by kernel_rfl)) (fun _ _ _ h => h) (Or.inl ⟨by rfl, ?_⟩) ?_ ?_
                          rotate_left
                          · intro w'
                            go_simp
                            with_reducible rfl
                          rotate_left
                          · simp only [Act.put, List.setIfInBounds_toArray, List.set_cons_zero, List.set_cons_succ, i64_w, i32_w]
                            rfl
                          refine pure_ (i := 1) (N := some 40) (v := ?_) (a' := ?_) #[true, true, false, false, false, false, false, false, false, false, false, false, false, false, false, false, false, false, false] rfl rfl (any_of HT_.out (by kernel_rfl)) (fun _ _ _ h => h) (Or.inl ⟨by rfl, ?_⟩) ?_ ?_
                          rotate_left
                          · intro w'
                            go_simp
                            with_reducible rfl
                          rotate_left
                          · simp only [Act.put, List.setIfInBounds_toArray, List.set_cons_zero, List.set_cons_succ, i64_w, i32_w]
                            rfl
                          refine pure_ (i := 2) (N := some 41) (v := ?_) (a' := ?_) #[true, true, true, false, false, false, false, false, false, false, false, false, false, false, false, false, false, false, false] rfl rfl (any_of HT_.out (by kernel_rfl)) (fun _ _ _ h => h) (Or.inl ⟨by rfl, ?_⟩) ?_ ?_
                          rotate_left
                          · intro w'
                            go_simp
                            with_reducible rfl
                          rotate_left
                          · simp only [Act.put, List.setIfInBounds_toArray, List.set_cons_zero, List.set_cons_succ, i64_w, i32_w]
                            rfl
                          refine pure_ (i := 3) (N := some 42) (v := ?_) (a' := ?_) #[true, true, true, true, false, false, false, false, false, false, false, false, false, false, false, false, false, false, false] rfl rfl (any_of HT_.out (by kernel_rfl)) (fun _ _ _ h => h) (Or.inl ⟨by rfl, ?_⟩) ?_ ?_
                          rotate_left
                          · intro w'
                            go_simp
                            with_reducible rfl
                          rotate_left
                          · simp only [Act.put, List.setIfInBounds_toArray, List.set_cons_zero, List.set_cons_succ, i64_w, i32_w]
                            rfl
                          refine pure_ (i := 4) (N := some 43) (v := ?_) (a' := ?_) #[true, true, true, true, true, false, false, false, false, false, false, false, false, false, false, false, false, false, false] rfl rfl (any_of HT_.out (by kernel_rfl)) (fun _ _ _ h => h) (Or.inl ⟨by rfl, ?_⟩) ?_ ?_
                          rotate_left
                          · intro w'
                            go_simp
                            with_reducible rfl
                          rotate_left
                          · simp only [Act.put, List.setIfInBounds_toArray, List.set_cons_zero, List.set_cons_succ, i64_w, i32_w]
                            rfl
                          refine pure_ (i := 6) (N := some 45) (v := ?_) (a' := ?_) #[true, true, true, true, true, false, true, false, false, false, false, false, false, false, false, false, false, false, false] rfl rfl (any_of HT_.out (by kernel_rfl)) (fun _ _ _ h => h) (Or.inl ⟨by rfl, ?_⟩) ?_ ?_
                          rotate_left
                          · intro w'
                            go_simp
                            with_reducible rfl
                          rotate_left
                          · simp only [Act.put, List.setIfInBounds_toArray, List.set_cons_zero, List.set_cons_succ, i64_w, i32_w]
                            rfl
                          refine pure_ (i := 8) (N := some 47) (v := ?_) (a' := ?_) #[true, true, true, true, true, false, true, false, true, false, false, false, false, false, false, false, false, false, false] rfl rfl (any_of HT_.out (by kernel_rfl)) (fun _ _ _ h => h) (Or.inl ⟨by rfl, ?_⟩) ?_ ?_
                          rotate_left
                          · intro w'
                            go_simp
                            with_reducible rfl
                          rotate_left
                          · simp only [Act.put, List.setIfInBounds_toArray, List.set_cons_zero, List.set_cons_succ, i64_w, i32_w]
                            rfl
                          refine pure_ (i := 10) (N := some 49) (v := ?_) (a' := ?_) #[true, true, true, true, true, false, true, false, true, false, true, false, false, false, false, false, false, false, false] rfl rfl (any_of HT_.out (by kernel_rfl)) (fun _ _ _ h => h) (Or.inl ⟨by rfl, ?_⟩) ?_ ?_
                          rotate_left
                          · intro w'
                            go_simp
                            with_reducible rfl
                          rotate_left
                          · simp only [Act.put, List.setIfInBounds_toArray, List.set_cons_zero, List.set_cons_succ, i64_w, i32_w]
                            rfl
                          refine pure_ (i := 11) (N := some 50) (v := ?_) (a' := ?_) #[true, true, true, true, true, false, true, false, true, false, true, true, false, false, false, false, false, false, false] rfl rfl (any_of HT_.out (by kernel_rfl)) (fun _ _ _ h => h) (Or.inl ⟨by rfl, ?_⟩) ?_ ?_
                          rotate_left
                          · intro w'
                            go_simp
                            with_reducible rfl
                          rotate_left
                          · simp only [Act.put, List.setIfInBounds_toArray, List.set_cons_zero, List.set_cons_succ, i64_w, i32_w]
                            rfl
                          refine pure_ (i := 12) (N := some 51) (v := ?_) (a' := ?_) #[true, true, true, true, true, false, true, false, true, false, true, true, true, false, false, false, false, false, false] rfl rfl (any_of HT_.out (by kernel_rfl)) (fun _ _ _ h => h) (Or.inl ⟨by rfl, ?_⟩) ?_ ?_
                          rotate_left
                          · intro w'
                            go_simp
                            with_reducible rfl
                          rotate_left
                          · simp only [Act.put, List.setIfInBounds_toArray, List.set_cons_zero, List.set_cons_succ, i64_w, i32_w]
                            rfl
                          refine pure_ (i := 13) (N := some 52) (v := ?_) (a' := ?_) #[true, true, true, true, true, false, true, false, true, false, true, true, true, true, false, false, false, false, false] rfl rfl (any_of HT_.out (by kernel_rfl)) (fun _ _ _ h => h) (Or.inl ⟨by rfl, ?_⟩) ?_ ?_
                          rotate_left
                          · intro w'
                            go_simp
                            with_reducible rfl
                          rotate_left
                          · simp only [Act.put, List.setIfInBounds_toArray, List.set_cons_zero, List.set_cons_succ, i64_w, i32_w]
                            rfl
                          refine pure_ (i := 14) (N := some 53) (v := ?_) (a' := ?_) #[true, true, true, true, true, false, true, false, true, false, true, true, true, true, true, false, false, false, false] rfl rfl (any_of HT_.out (by kernel_rfl)) (fun _ _ _ h => h) (Or.inl ⟨by rfl, ?_⟩) ?_ ?_
                          rotate_left
                          · intro w'
                            go_simp
                            with_reducible rfl
                          rotate_left
                          · simp only [Act.put, List.setIfInBounds_toArray, List.set_cons_zero, List.set_cons_succ, i64_w, i32_w]
                            rfl
                          refine pure_ (i := 15) (N := some 54) (v := ?_) (a' := ?_) #[true, true, true, true, true, false, true, false, true, false, true, true, true, true, true, true, false, false, false] rfl rfl (any_of HT_.out (by kernel_rfl)) (fun _ _ _ h => h) (Or.inl ⟨by rfl, ?_⟩) ?_ ?_
                          rotate_left
                          · intro w'
                            go_simp
                            with_reducible rfl
                          rotate_left
                          · simp only [Act.put, List.setIfInBounds_toArray, List.set_cons_zero, List.set_cons_succ, i64_w, i32_w]
                            rfl
                          refine one_ (i := 5) (N := some 44) #[true, true, true, true, true, true, true, false, true, false, true, true, true, true, true, true, false, false, false] rfl rfl (one_of HT_.out (by kernel_rfl)) (by decide) (fun K hK => ?_)
                          refine goes_ Try.func78 (by kernel_rfl) rfl #[.string a0, .int .i64 ji12] (by rfl) rfl rfl (by (try simp only [List.map_toArray, List.map_cons, List.map_nil]); first | done | (simp only [hji12]; rfl) | rfl | (simp only [List.length_drop, List.length_take]; rfl)) ?_
                          with_reducible refine (impl_sized.calls a0 ji12 t1213 _ A13.out).mono ?_
                          rintro e w22 ⟨rfl, hb⟩
                          refine ⟨_, rfl, ?_⟩
                          have n0_ := Aside0.mk (below_step (by repeat (first | (with_reducible first | exact HB.out | apply below_alloc | apply pw_below_drewN | apply below_drew1) | exact HB.out)) hb)
                          clear HB
                          have HB := n0_
                          clear n0_
                          (try clear hb)
                          (try clear hb2)
                          (try clear hk)
                          (try clear hi)
                          refine hK.out _ _ trivial (fun hHeld => ?_)
                          clear hK K
                          refine norm_ (a' := ?_) ?_ ?_
                          rotate_left
                          · show Act.put _ (some 44) _ = _
                            simp only [Act.put, List.setIfInBounds_toArray, List.set_cons_zero, List.set_cons_succ, i64_w, i32_w]
                            rfl
                          refine pure_ (i := 7) (N := some 46) (v := ?_) (a' := ?_) #[true, true, true, true, true, true, true, true, true, false, true, true, true, true, true, true, false, false, false] rfl rfl (any_of HT_.out (by kernel_rfl)) (fun _ _ _ h => h) (Or.inl ⟨by rfl, ?_⟩) ?_ ?_
                          rotate_left
                          · intro w'
                            go_simp
                            with_reducible rfl
                          rotate_left
                          · simp only [Act.put, List.setIfInBounds_toArray, List.set_cons_zero, List.set_cons_succ, i64_w, i32_w]
                            rfl
                          refine pure_ (i := 9) (N := some 48) (v := ?_) (a' := ?_) #[true, true, true, true, true, true, true, true, true, true, true, true, true, true, true, true, false, false, false] rfl rfl (any_of HT_.out (by kernel_rfl)) (fun _ _ _ h => h) (Or.inl ⟨by rfl, ?_⟩) ?_ ?_
                          rotate_left
                          · intro w'
                            go_simp
                            with_reducible rfl
                          rotate_left
                          · simp only [Act.put, List.setIfInBounds_toArray, List.set_cons_zero, List.set_cons_succ, i64_w, i32_w]
                            rfl
                          refine pure_ (i := 16) (N := some 55) (v := ?_) (a' := ?_) #[true, true, true, true, true, true, true, true, true, true, true, true, true, true, true, true, true, false, false] rfl rfl (any_of HT_.out (by kernel_rfl)) (fun _ _ _ h => h) (Or.inl ⟨by rfl, ?_⟩) ?_ ?_
                          rotate_left
                          · intro w'
                            go_simp
                            with_reducible rfl
                          rotate_left
                          · simp only [Act.put, List.setIfInBounds_toArray, List.set_cons_zero, List.set_cons_succ, i64_w, i32_w]
                            rfl
                          refine pure_ (i := 17) (N := some 6) (v := ?_) (a' := ?_) #[true, true, true, true, true, true, true, true, true, true, true, true, true, true, true, true, true, true, false] rfl rfl (any_of HT_.out (by kernel_rfl)) (fun _ _ _ h => h) (Or.inl ⟨by rfl, ?_⟩) ?_ ?_
                          rotate_left
                          · intro w'
                            go_simp
                            with_reducible rfl
                          rotate_left
                          · simp only [Act.put, List.setIfInBounds_toArray, List.set_cons_zero, List.set_cons_succ, i64_w, i32_w]
                            rfl
                          refine pure_ (i := 18) (N := some 7) (v := ?_) (a' := ?_) #[true, true, true, true, true, true, true, true, true, true, true, true, true, true, true, true, true, true, true] rfl rfl (any_of HT_.out (by kernel_rfl)) (fun _ _ _ h => h) (Or.inl ⟨by rfl, ?_⟩) ?_ ?_
                          rotate_left
                          · intro w'
                            go_simp
                            with_reducible rfl
                          rotate_left
                          · simp only [Act.put, List.setIfInBounds_toArray, List.set_cons_zero, List.set_cons_succ, i64_w, i32_w]
                            rfl
                          refine done_ (done_of HT_.out (by kernel_rfl)) ?_
                          try go_wp2
                          go_ret2
                          exact ⟨by first | rfl | (simp [errW_none, errW_some] <;> rfl) | (simp only [← hji12, ← hji17]; first | rfl | (simp [errW_none, errW_some] <;> rfl)) | (simp [*, errW_none, errW_some] <;> rfl), by repeat (first | (with_reducible first | exact HB.out | apply below_alloc | apply pw_below_drewN | apply below_drew1) | exact HB.out)⟩
                        · rw [if_neg c20] at H
                          exact absurd H (by simp)
                      · rw [if_neg c19] at H
                        exact absurd H (by simp)
                    · rw [if_neg c18] at H
                      exact absurd H (by simp)
                  · rw [if_neg c16] at H
                    exact absurd H (by simp)
                · rw [if_neg c15] at H
                  exact absurd H (by simp)
              · rw [if_neg c14] at H
                exact absurd H (by simp)
          · replace c10 := Bool.eq_false_iff.mpr c10
            subst c10
            have H1 : (some (a0, false)) = some (r1, r2) := by rw [if_neg (show ¬ (false = true) by decide)] at H; exact H
            clear H
            have H := H1
            clear H1
            simp only [Option.some.injEq, Prod.mk.injEq] at H
            obtain ⟨rfl, rfl⟩ := H
            go_enter Try.func73, Try.ntmps73
            go_wp2_with (first | ((with_reducible refine gate_callee (f := 57) rfl ?_); refine goesL_ (some 10) rfl rfl Try.func57 (by kernel_rfl) rfl #[.string a0] rfl (by (try simp only [List.map_toArray, List.map_cons, List.map_nil]); first | done | rfl | (simp only [List.length_drop, List.length_take]; rfl)) ?_; (with_reducible refine (impl_TextOk.calls k a0 true _ A4.out).mono ?_); rintro e w' ⟨rfl, ⟨nd, rfl⟩⟩; refine ⟨_, rfl, ?_⟩) | (go_at_call 57; (with_reducible refine (impl_TextOk.calls k a2 false _ A9.out).mono ?_); rintro e w' ⟨rfl, ⟨nd, rfl⟩⟩))
            go_ret2
            exact ⟨by first | rfl | (simp [errW_none, errW_some] <;> rfl) | (simp [*, errW_none, errW_some] <;> rfl), by repeat (first | (with_reducible first | exact HB.out | apply below_alloc | apply pw_below_drewN | apply below_drew1) | exact HB.out)⟩
  · replace c5 := Bool.eq_false_iff.mpr c5
    subst c5
    have H1 : (some ((⟨#[]⟩ : ByteArray), false)) = some (r1, r2) := by rw [if_neg (show ¬ (false = true) by decide)] at H; exact H
    clear H
    have H := H1
    clear H1
    simp only [Option.some.injEq, Prod.mk.injEq] at H
    obtain ⟨rfl, rfl⟩ := H
    go_enter Try.func73, Try.ntmps73
    go_wp2_with (first | ((with_reducible refine gate_callee (f := 57) rfl ?_); refine goesL_ (some 10) rfl rfl Try.func57 (by kernel_rfl) rfl #[.string a0] rfl (by (try simp only [List.map_toArray, List.map_cons, List.map_nil]); first | done | rfl | (simp only [List.length_drop, List.length_take]; rfl)) ?_; (with_reducible refine (impl_TextOk.calls k a0 false _ A4.out).mono ?_); rintro e w' ⟨rfl, ⟨nd, rfl⟩⟩; refine ⟨_, rfl, ?_⟩))
    go_ret2
    exact ⟨by first | rfl | (simp [errW_none, errW_some] <;> rfl) | (simp [*, errW_none, errW_some] <;> rfl), by repeat (first | (with_reducible first | exact HB.out | apply below_alloc | apply pw_below_drewN | apply below_drew1) | exact HB.out)⟩
end Go.Proofs.Ytolmblfffnnabaa.P
namespace Go.Proofs.Ytolmblfffnnabaa.P
open Go.RowKit Go.Proofs.YtolmblfffnnabaaW.PrintWords Go.Proofs.YtolmblfffnnabaaW.PrintLast Go.Proofs.YtolmblfffnnabaaW.PrintMore
attribute [local go_sem] max2_int min2_int max_two min_two max_three min_three max_four min_four   
set_option linter.unusedVariables false
set_option linter.unusedSimpArgs false
def spec_l4Who.f (a0 : Int) : Option (Bool) := if a0 ≥ 0 then (some (decide (a0 < 3))) else (some false)
set_option maxHeartbeats 8000000 in
set_option maxRecDepth 100000 in
theorem spec_l4Who.calls (a0 : Int) (r : Bool) (w : World) (h : spec_l4Who.f a0 = some r) :
    Calls Try.prog 66 #[.int .i64 a0] w fun e w' => e = .returned (.bool r) ∧ Drawn0 w w' := by
  have H : (if a0 ≥ 0 then (some (decide (a0 < 3))) else (some false)) = some r := h
  clear h
  by_cases c2 : a0 ≥ 0
  · rw [if_pos c2] at H
    have c2b0 : decide (0 ≤ a0) = true := decide_eq_true c2
    clear c2
    obtain rfl := Option.some.inj H
    go_enter Try.func66, Try.ntmps66
    go_wp2
    go_ret
    exact ⟨by first | rfl | (simp; done) | (simp [*]; done), by repeat (first | exact Drawn0.refl _ | apply Drawn0.step)⟩
  · rw [if_neg c2] at H
    have c2b0 : decide (0 ≤ a0) = false := decide_eq_false c2
    clear c2
    obtain rfl := Option.some.inj H
    go_enter Try.func66, Try.ntmps66
    go_wp2
    go_ret
    exact ⟨by first | rfl | (simp; done) | (simp [*]; done), by repeat (first | exact Drawn0.refl _ | apply Drawn0.step)⟩
end Go.Proofs.Ytolmblfffnnabaa.P
namespace Go.Proofs.Ytolmblfffnnabaa.P
open Go.RowKit Go.Proofs.YtolmblfffnnabaaW.PrintWords Go.Proofs.YtolmblfffnnabaaW.PrintLast Go.Proofs.YtolmblfffnnabaaW.PrintMore
attribute [local go_sem] max2_int min2_int max_two min_two max_three min_three max_four min_four   
set_option linter.unusedVariables false
set_option linter.unusedSimpArgs false
def spec_l5Req.f (k : Nat) (a0_0 : Int) (a0_1 : Int) (a0_2 : Int) (a0_3 : Int) (a0_4 : Int) (a0_5 : ByteArray) : Option (Bool) := (spec_l4Who.f a0_0).bind fun t1137 => (if t1137 = true then (if a0_1 < 0 then (some false) else (if a0_1 > 100 then (some false) else (if a0_2 < 1 then (some false) else (if a0_2 > 1000 then (some false) else (if a0_3 < 0 then (some false) else (if a0_3 ≥ 3 then (some false) else (if a0_4 ≥ 0 then (if a0_4 ≤ 48 then ((spec_TextOk.f k a0_5).bind fun t1138 => (if t1138 = true then (if a0_5.toList = ([] : List UInt8) then (some false) else (some (decide ((wrap64 (a0_4 + (a0_5.size : Int))) ≤ 48)))) else (some false))) else (some false)) else (some false)))))))) else (some false))
set_option maxHeartbeats 8000000 in
set_option maxRecDepth 100000 in
theorem spec_l5Req.calls (k : Nat) (a0_0 : Int) (a0_1 : Int) (a0_2 : Int) (a0_3 : Int) (a0_4 : Int) (a0_5 : ByteArray) (r : Bool) (w : World) (h : spec_l5Req.f k a0_0 a0_1 a0_2 a0_3 a0_4 a0_5 = some r) :
    Calls Try.prog 76 #[.agg #[.int .i64 a0_0, .int .i64 a0_1, .int .i64 a0_2, .int .i64 a0_3, .int .i64 a0_4, .string a0_5]] w fun e w' => e = .returned (.bool r) ∧ Below w.heap.size w w' := by
  have hu63 := Try.underlying63
  have HB := Aside0.mk (Below.refl w.heap.size w)
  have H : ((spec_l4Who.f a0_0).bind fun t1137 => (if t1137 = true then (if a0_1 < 0 then (some false) else (if a0_1 > 100 then (some false) else (if a0_2 < 1 then (some false) else (if a0_2 > 1000 then (some false) else (if a0_3 < 0 then (some false) else (if a0_3 ≥ 3 then (some false) else (if a0_4 ≥ 0 then (if a0_4 ≤ 48 then ((spec_TextOk.f k a0_5).bind fun t1138 => (if t1138 = true then (if a0_5.toList = ([] : List UInt8) then (some false) else (some (decide ((wrap64 (a0_4 + (a0_5.size : Int))) ≤ 48)))) else (some false))) else (some false)) else (some false)))))))) else (some false))) = some r := h
  clear h
  replace H := Option.bind_eq_some_iff.mp H
  obtain ⟨t1137, A20, H⟩ := H
  replace H : (if t1137 = true then (if a0_1 < 0 then (some false) else (if a0_1 > 100 then (some false) else (if a0_2 < 1 then (some false) else (if a0_2 > 1000 then (some false) else (if a0_3 < 0 then (some false) else (if a0_3 ≥ 3 then (some false) else (if a0_4 ≥ 0 then (if a0_4 ≤ 48 then ((spec_TextOk.f k a0_5).bind fun t1138 => (if t1138 = true then (if a0_5.toList = ([] : List UInt8) then (some false) else (some (decide ((wrap64 (a0_4 + (a0_5.size : Int))) ≤ 48)))) else (some false))) else (some false)) else (some false)))))))) else (some false)) = some r := H
  have A2 := Aside0.mk A20
  clear A20
  by_cases c3 : t1137 = true
  · subst c3
    have H1 : (if a0_1 < 0 then (some false) else (if a0_1 > 100 then (some false) else (if a0_2 < 1 then (some false) else (if a0_2 > 1000 then (some false) else (if a0_3 < 0 then (some false) else (if a0_3 ≥ 3 then (some false) else (if a0_4 ≥ 0 then (if a0_4 ≤ 48 then ((spec_TextOk.f k a0_5).bind fun t1138 => (if t1138 = true then (if a0_5.toList = ([] : List UInt8) then (some false) else (some (decide ((wrap64 (a0_4 + (a0_5.size : Int))) ≤ 48)))) else (some false))) else (some false)) else (some false)))))))) = some r := by rw [if_pos rfl] at H; exact H
    clear H
    have H := H1
    clear H1
    by_cases c4 : a0_1 < 0
    · rw [if_pos c4] at H
      have c4b0 : decide (a0_1 < 0) = true := decide_eq_true c4
      clear c4
      obtain rfl := Option.some.inj H
      go_enter Try.func76, Try.ntmps76
      go_wp2_with (first | ((with_reducible refine gate_dst (N := 1) rfl ?_); (try (refine gate_guard (by rfl) ?_; dsimp only)); refine box_event ?hg (N := 1) ?hd (cs := #[.int .i64 a0_0, .int .i64 a0_1, .int .i64 a0_2, .int .i64 a0_3, .int .i64 a0_4, .string a0_5]) (t := 63) ?hr ?_; (case hd => rfl); (case hg => rfl); (case hr => first | (go_simp; done) | (go_simp; rfl)); intro gb1136 hg w5 hbox hb; have n0_ := Aside0.mk (below_step (by repeat (first | (with_reducible first | exact HB.out | apply below_alloc | apply pw_below_drewN | apply below_drew1) | exact HB.out)) hb); have n1_ := Aside0.mk (hbox); have n2_ := Aside0.mk ((by rw [hg]; exact (below_size (by repeat (first | (with_reducible first | exact HB.out | apply below_alloc | apply pw_below_drewN | apply below_drew1) | exact HB.out))) : w.heap.size ≤ gb1136)); have n3_ := Aside0.mk ((by rw [hg]; exact (below_size (by repeat (first | (with_reducible first | exact HB.out | apply below_alloc | apply pw_below_drewN | apply below_drew1) | exact HB.out))) : w.heap.size ≤ gb1136)); clear HB; have HB := n0_; have BK1136 := n1_; have GW1136 := n2_; have GE1136 := n3_; clear n0_ n1_ n2_ n3_; clear hb hbox hg; have hcz6_0 : w5.cell? ⟨gb1136, 0, none⟩ = some (.int .i64 a0_0) := (blk_cell BK1136.out 0).trans rfl; have hcz6_1 : w5.cell? ⟨gb1136, 1, none⟩ = some (.int .i64 a0_1) := (blk_cell BK1136.out 1).trans rfl; have hcz6_2 : w5.cell? ⟨gb1136, 2, none⟩ = some (.int .i64 a0_2) := (blk_cell BK1136.out 2).trans rfl; have hcz6_3 : w5.cell? ⟨gb1136, 3, none⟩ = some (.int .i64 a0_3) := (blk_cell BK1136.out 3).trans rfl; have hcz6_4 : w5.cell? ⟨gb1136, 4, none⟩ = some (.int .i64 a0_4) := (blk_cell BK1136.out 4).trans rfl; have hcz6_5 : w5.cell? ⟨gb1136, 5, none⟩ = some (.string a0_5) := (blk_cell BK1136.out 5).trans rfl; have hfz6_0 := blk_frozen BK1136.out 0; have hfz6_1 := blk_frozen BK1136.out 1; have hfz6_2 := blk_frozen BK1136.out 2; have hfz6_3 := blk_frozen BK1136.out 3; have hfz6_4 := blk_frozen BK1136.out 4; have hfz6_5 := blk_frozen BK1136.out 5) | ((with_reducible refine gate_callee (f := 66) rfl ?_); refine goesL_ (some 5) rfl rfl Try.func66 (by kernel_rfl) rfl #[.int .i64 a0_0] rfl (by (try simp only [List.map_toArray, List.map_cons, List.map_nil]); first | done | rfl | (simp only [List.length_drop, List.length_take]; rfl)) ?_; (with_reducible refine (spec_l4Who.calls a0_0 true _ A2.out).mono ?_); rintro e w' ⟨rfl, ⟨nd, rfl⟩⟩; refine ⟨_, rfl, ?_⟩))
      go_ret
      exact ⟨by first | rfl | (simp [errW_none, errW_some] <;> rfl) | (simp [*, errW_none, errW_some] <;> rfl), by repeat (first | (with_reducible first | exact HB.out | apply below_alloc | apply pw_below_drewN | apply below_drew1 | refine below_set ?_ GE1136.out) | exact HB.out)⟩
    · rw [if_neg c4] at H
      have c4b0 : decide (a0_1 < 0) = false := decide_eq_false c4
      clear c4
      by_cases c7 : a0_1 > 100
      · rw [if_pos c7] at H
        have c7b0 : decide (100 < a0_1) = true := decide_eq_true c7
        clear c7
        obtain rfl := Option.some.inj H
        go_enter Try.func76, Try.ntmps76
        go_wp2_with (first | ((with_reducible refine gate_dst (N := 1) rfl ?_); (try (refine gate_guard (by rfl) ?_; dsimp only)); refine box_event ?hg (N := 1) ?hd (cs := #[.int .i64 a0_0, .int .i64 a0_1, .int .i64 a0_2, .int .i64 a0_3, .int .i64 a0_4, .string a0_5]) (t := 63) ?hr ?_; (case hd => rfl); (case hg => rfl); (case hr => first | (go_simp; done) | (go_simp; rfl)); intro gb1136 hg w8 hbox hb; have n0_ := Aside0.mk (below_step (by repeat (first | (with_reducible first | exact HB.out | apply below_alloc | apply pw_below_drewN | apply below_drew1) | exact HB.out)) hb); have n1_ := Aside0.mk (hbox); have n2_ := Aside0.mk ((by rw [hg]; exact (below_size (by repeat (first | (with_reducible first | exact HB.out | apply below_alloc | apply pw_below_drewN | apply below_drew1) | exact HB.out))) : w.heap.size ≤ gb1136)); have n3_ := Aside0.mk ((by rw [hg]; exact (below_size (by repeat (first | (with_reducible first | exact HB.out | apply below_alloc | apply pw_below_drewN | apply below_drew1) | exact HB.out))) : w.heap.size ≤ gb1136)); clear HB; have HB := n0_; have BK1136 := n1_; have GW1136 := n2_; have GE1136 := n3_; clear n0_ n1_ n2_ n3_; clear hb hbox hg; have hcz9_0 : w8.cell? ⟨gb1136, 0, none⟩ = some (.int .i64 a0_0) := (blk_cell BK1136.out 0).trans rfl; have hcz9_1 : w8.cell? ⟨gb1136, 1, none⟩ = some (.int .i64 a0_1) := (blk_cell BK1136.out 1).trans rfl; have hcz9_2 : w8.cell? ⟨gb1136, 2, none⟩ = some (.int .i64 a0_2) := (blk_cell BK1136.out 2).trans rfl; have hcz9_3 : w8.cell? ⟨gb1136, 3, none⟩ = some (.int .i64 a0_3) := (blk_cell BK1136.out 3).trans rfl; have hcz9_4 : w8.cell? ⟨gb1136, 4, none⟩ = some (.int .i64 a0_4) := (blk_cell BK1136.out 4).trans rfl; have hcz9_5 : w8.cell? ⟨gb1136, 5, none⟩ = some (.string a0_5) := (blk_cell BK1136.out 5).trans rfl; have hfz9_0 := blk_frozen BK1136.out 0; have hfz9_1 := blk_frozen BK1136.out 1; have hfz9_2 := blk_frozen BK1136.out 2; have hfz9_3 := blk_frozen BK1136.out 3; have hfz9_4 := blk_frozen BK1136.out 4; have hfz9_5 := blk_frozen BK1136.out 5) | ((with_reducible refine gate_callee (f := 66) rfl ?_); refine goesL_ (some 5) rfl rfl Try.func66 (by kernel_rfl) rfl #[.int .i64 a0_0] rfl (by (try simp only [List.map_toArray, List.map_cons, List.map_nil]); first | done | rfl | (simp only [List.length_drop, List.length_take]; rfl)) ?_; (with_reducible refine (spec_l4Who.calls a0_0 true _ A2.out).mono ?_); rintro e w' ⟨rfl, ⟨nd, rfl⟩⟩; refine ⟨_, rfl, ?_⟩))
        go_ret
        exact ⟨by first | rfl | (simp [errW_none, errW_some] <;> rfl) | (simp [*, errW_none, errW_some] <;> rfl), by repeat (first | (with_reducible first | exact HB.out | apply below_alloc | apply pw_below_drewN | apply below_drew1 | refine below_set ?_ GE1136.out) | exact HB.out)⟩
      · rw [if_neg c7] at H
        have c7b0 : decide (100 < a0_1) = false := decide_eq_false c7
        clear c7
        by_cases c10 : a0_2 < 1
        · rw [if_pos c10] at H
          have c10b0 : decide (a0_2 < 1) = true := decide_eq_true c10
          clear c10
          obtain rfl := Option.some.inj H
          go_enter Try.func76, Try.ntmps76
          go_wp2_with (first | ((with_reducible refine gate_dst (N := 1) rfl ?_); (try (refine gate_guard (by rfl) ?_; dsimp only)); refine box_event ?hg (N := 1) ?hd (cs := #[.int .i64 a0_0, .int .i64 a0_1, .int .i64 a0_2, .int .i64 a0_3, .int .i64 a0_4, .string a0_5]) (t := 63) ?hr ?_; (case hd => rfl); (case hg => rfl); (case hr => first | (go_simp; done) | (go_simp; rfl)); intro gb1136 hg w11 hbox hb; have n0_ := Aside0.mk (below_step (by repeat (first | (with_reducible first | exact HB.out | apply below_alloc | apply pw_below_drewN | apply below_drew1) | exact HB.out)) hb); have n1_ := Aside0.mk (hbox); have n2_ := Aside0.mk ((by rw [hg]; exact (below_size (by repeat (first | (with_reducible first | exact HB.out | apply below_alloc | apply pw_below_drewN | apply below_drew1) | exact HB.out))) : w.heap.size ≤ gb1136)); have n3_ := Aside0.mk ((by rw [hg]; exact (below_size (by repeat (first | (with_reducible first | exact HB.out | apply below_alloc | apply pw_below_drewN | apply below_drew1) | exact HB.out))) : w.heap.size ≤ gb1136)); clear HB; have HB := n0_; have BK1136 := n1_; have GW1136 := n2_; have GE1136 := n3_; clear n0_ n1_ n2_ n3_; clear hb hbox hg; have hcz12_0 : w11.cell? ⟨gb1136, 0, none⟩ = some (.int .i64 a0_0) := (blk_cell BK1136.out 0).trans rfl; have hcz12_1 : w11.cell? ⟨gb1136, 1, none⟩ = some (.int .i64 a0_1) := (blk_cell BK1136.out 1).trans rfl; have hcz12_2 : w11.cell? ⟨gb1136, 2, none⟩ = some (.int .i64 a0_2) := (blk_cell BK1136.out 2).trans rfl; have hcz12_3 : w11.cell? ⟨gb1136, 3, none⟩ = some (.int .i64 a0_3) := (blk_cell BK1136.out 3).trans rfl; have hcz12_4 : w11.cell? ⟨gb1136, 4, none⟩ = some (.int .i64 a0_4) := (blk_cell BK1136.out 4).trans rfl; have hcz12_5 : w11.cell? ⟨gb1136, 5, none⟩ = some (.string a0_5) := (blk_cell BK1136.out 5).trans rfl; have hfz12_0 := blk_frozen BK1136.out 0; have hfz12_1 := blk_frozen BK1136.out 1; have hfz12_2 := blk_frozen BK1136.out 2; have hfz12_3 := blk_frozen BK1136.out 3; have hfz12_4 := blk_frozen BK1136.out 4; have hfz12_5 := blk_frozen BK1136.out 5) | ((with_reducible refine gate_callee (f := 66) rfl ?_); refine goesL_ (some 5) rfl rfl Try.func66 (by kernel_rfl) rfl #[.int .i64 a0_0] rfl (by (try simp only [List.map_toArray, List.map_cons, List.map_nil]); first | done | rfl | (simp only [List.length_drop, List.length_take]; rfl)) ?_; (with_reducible refine (spec_l4Who.calls a0_0 true _ A2.out).mono ?_); rintro e w' ⟨rfl, ⟨nd, rfl⟩⟩; refine ⟨_, rfl, ?_⟩))
          go_ret
          exact ⟨by first | rfl | (simp [errW_none, errW_some] <;> rfl) | (simp [*, errW_none, errW_some] <;> rfl), by repeat (first | (with_reducible first | exact HB.out | apply below_alloc | apply pw_below_drewN | apply below_drew1 | refine below_set ?_ GE1136.out) | exact HB.out)⟩
        · rw [if_neg c10] at H
          have c10b0 : decide (a0_2 < 1) = false := decide_eq_false c10
          clear c10
          by_cases c13 : a0_2 > 1000
          · rw [if_pos c13] at H
            have c13b0 : decide (1000 < a0_2) = true := decide_eq_true c13
            clear c13
            obtain rfl := Option.some.inj H
            go_enter Try.func76, Try.ntmps76
            go_wp2_with (first | ((with_reducible refine gate_dst (N := 1) rfl ?_); (try (refine gate_guard (by rfl) ?_; dsimp only)); refine box_event ?hg (N := 1) ?hd (cs := #[.int .i64 a0_0, .int .i64 a0_1, .int .i64 a0_2, .int .i64 a0_3, .int .i64 a0_4, .string a0_5]) (t := 63) ?hr ?_; (case hd => rfl); (case hg => rfl); (case hr => first | (go_simp; done) | (go_simp; rfl)); intro gb1136 hg w14 hbox hb; have n0_ := Aside0.mk (below_step (by repeat (first | (with_reducible first | exact HB.out | apply below_alloc | apply pw_below_drewN | apply below_drew1) | exact HB.out)) hb); have n1_ := Aside0.mk (hbox); have n2_ := Aside0.mk ((by rw [hg]; exact (below_size (by repeat (first | (with_reducible first | exact HB.out | apply below_alloc | apply pw_below_drewN | apply below_drew1) | exact HB.out))) : w.heap.size ≤ gb1136)); have n3_ := Aside0.mk ((by rw [hg]; exact (below_size (by repeat (first | (with_reducible first | exact HB.out | apply below_alloc | apply pw_below_drewN | apply below_drew1) | exact HB.out))) : w.heap.size ≤ gb1136)); clear HB; have HB := n0_; have BK1136 := n1_; have GW1136 := n2_; have GE1136 := n3_; clear n0_ n1_ n2_ n3_; clear hb hbox hg; have hcz15_0 : w14.cell? ⟨gb1136, 0, none⟩ = some (.int .i64 a0_0) := (blk_cell BK1136.out 0).trans rfl; have hcz15_1 : w14.cell? ⟨gb1136, 1, none⟩ = some (.int .i64 a0_1) := (blk_cell BK1136.out 1).trans rfl; have hcz15_2 : w14.cell? ⟨gb1136, 2, none⟩ = some (.int .i64 a0_2) := (blk_cell BK1136.out 2).trans rfl; have hcz15_3 : w14.cell? ⟨gb1136, 3, none⟩ = some (.int .i64 a0_3) := (blk_cell BK1136.out 3).trans rfl; have hcz15_4 : w14.cell? ⟨gb1136, 4, none⟩ = some (.int .i64 a0_4) := (blk_cell BK1136.out 4).trans rfl; have hcz15_5 : w14.cell? ⟨gb1136, 5, none⟩ = some (.string a0_5) := (blk_cell BK1136.out 5).trans rfl; have hfz15_0 := blk_frozen BK1136.out 0; have hfz15_1 := blk_frozen BK1136.out 1; have hfz15_2 := blk_frozen BK1136.out 2; have hfz15_3 := blk_frozen BK1136.out 3; have hfz15_4 := blk_frozen BK1136.out 4; have hfz15_5 := blk_frozen BK1136.out 5) | ((with_reducible refine gate_callee (f := 66) rfl ?_); refine goesL_ (some 5) rfl rfl Try.func66 (by kernel_rfl) rfl #[.int .i64 a0_0] rfl (by (try simp only [List.map_toArray, List.map_cons, List.map_nil]); first | done | rfl | (simp only [List.length_drop, List.length_take]; rfl)) ?_; (with_reducible refine (spec_l4Who.calls a0_0 true _ A2.out).mono ?_); rintro e w' ⟨rfl, ⟨nd, rfl⟩⟩; refine ⟨_, rfl, ?_⟩))
            go_ret
            exact ⟨by first | rfl | (simp [errW_none, errW_some] <;> rfl) | (simp [*, errW_none, errW_some] <;> rfl), by repeat (first | (with_reducible first | exact HB.out | apply below_alloc | apply pw_below_drewN | apply below_drew1 | refine below_set ?_ GE1136.out) | exact HB.out)⟩
          · rw [if_neg c13] at H
            have c13b0 : decide (1000 < a0_2) = false := decide_eq_false c13
            clear c13
            by_cases c16 : a0_3 < 0
            · rw [if_pos c16] at H
              have c16b0 : decide (a0_3 < 0) = true := decide_eq_true c16
              clear c16
              obtain rfl := Option.some.inj H
              go_enter Try.func76, Try.ntmps76
              go_wp2_with (first | ((with_reducible refine gate_dst (N := 1) rfl ?_); (try (refine gate_guard (by rfl) ?_; dsimp only)); refine box_event ?hg (N := 1) ?hd (cs := #[.int .i64 a0_0, .int .i64 a0_1, .int .i64 a0_2, .int .i64 a0_3, .int .i64 a0_4, .string a0_5]) (t := 63) ?hr ?_; (case hd => rfl); (case hg => rfl); (case hr => first | (go_simp; done) | (go_simp; rfl)); intro gb1136 hg w17 hbox hb; have n0_ := Aside0.mk (below_step (by repeat (first | (with_reducible first | exact HB.out | apply below_alloc | apply pw_below_drewN | apply below_drew1) | exact HB.out)) hb); have n1_ := Aside0.mk (hbox); have n2_ := Aside0.mk ((by rw [hg]; exact (below_size (by repeat (first | (with_reducible first | exact HB.out | apply below_alloc | apply pw_below_drewN | apply below_drew1) | exact HB.out))) : w.heap.size ≤ gb1136)); have n3_ := Aside0.mk ((by rw [hg]; exact (below_size (by repeat (first | (with_reducible first | exact HB.out | apply below_alloc | apply pw_below_drewN | apply below_drew1) | exact HB.out))) : w.heap.size ≤ gb1136)); clear HB; have HB := n0_; have BK1136 := n1_; have GW1136 := n2_; have GE1136 := n3_; clear n0_ n1_ n2_ n3_; clear hb hbox hg; have hcz18_0 : w17.cell? ⟨gb1136, 0, none⟩ = some (.int .i64 a0_0) := (blk_cell BK1136.out 0).trans rfl; have hcz18_1 : w17.cell? ⟨gb1136, 1, none⟩ = some (.int .i64 a0_1) := (blk_cell BK1136.out 1).trans rfl; have hcz18_2 : w17.cell? ⟨gb1136, 2, none⟩ = some (.int .i64 a0_2) := (blk_cell BK1136.out 2).trans rfl; have hcz18_3 : w17.cell? ⟨gb1136, 3, none⟩ = some (.int .i64 a0_3) := (blk_cell BK1136.out 3).trans rfl; have hcz18_4 : w17.cell? ⟨gb1136, 4, none⟩ = some (.int .i64 a0_4) := (blk_cell BK1136.out 4).trans rfl; have hcz18_5 : w17.cell? ⟨gb1136, 5, none⟩ = some (.string a0_5) := (blk_cell BK1136.out 5).trans rfl; have hfz18_0 := blk_frozen BK1136.out 0; have hfz18_1 := blk_frozen BK1136.out 1; have hfz18_2 := blk_frozen BK1136.out 2; have hfz18_3 := blk_frozen BK1136.out 3; have hfz18_4 := blk_frozen BK1136.out 4; have hfz18_5 := blk_frozen BK1136.out 5) | ((with_reducible refine gate_callee (f := 66) rfl ?_); refine goesL_ (some 5) rfl rfl Try.func66 (by kernel_rfl) rfl #[.int .i64 a0_0] rfl (by (try simp only [List.map_toArray, List.map_cons, List.map_nil]); first | done | rfl | (simp only [List.length_drop, List.length_take]; rfl)) ?_; (with_reducible refine (spec_l4Who.calls a0_0 true _ A2.out).mono ?_); rintro e w' ⟨rfl, ⟨nd, rfl⟩⟩; refine ⟨_, rfl, ?_⟩))
              go_ret
              exact ⟨by first | rfl | (simp [errW_none, errW_some] <;> rfl) | (simp [*, errW_none, errW_some] <;> rfl), by repeat (first | (with_reducible first | exact HB.out | apply below_alloc | apply pw_below_drewN | apply below_drew1 | refine below_set ?_ GE1136.out) | exact HB.out)⟩
            · rw [if_neg c16] at H
              have c16b0 : decide (a0_3 < 0) = false := decide_eq_false c16
              clear c16
              by_cases c19 : a0_3 ≥ 3
              · rw [if_pos c19] at H
                have c19b0 : decide (3 ≤ a0_3) = true := decide_eq_true c19
                clear c19
                obtain rfl := Option.some.inj H
                go_enter Try.func76, Try.ntmps76
                go_wp2_with (first | ((with_reducible refine gate_dst (N := 1) rfl ?_); (try (refine gate_guard (by rfl) ?_; dsimp only)); refine box_event ?hg (N := 1) ?hd (cs := #[.int .i64 a0_0, .int .i64 a0_1, .int .i64 a0_2, .int .i64 a0_3, .int .i64 a0_4, .string a0_5]) (t := 63) ?hr ?_; (case hd => rfl); (case hg => rfl); (case hr => first | (go_simp; done) | (go_simp; rfl)); intro gb1136 hg w20 hbox hb; have n0_ := Aside0.mk (below_step (by repeat (first | (with_reducible first | exact HB.out | apply below_alloc | apply pw_below_drewN | apply below_drew1) | exact HB.out)) hb); have n1_ := Aside0.mk (hbox); have n2_ := Aside0.mk ((by rw [hg]; exact (below_size (by repeat (first | (with_reducible first | exact HB.out | apply below_alloc | apply pw_below_drewN | apply below_drew1) | exact HB.out))) : w.heap.size ≤ gb1136)); have n3_ := Aside0.mk ((by rw [hg]; exact (below_size (by repeat (first | (with_reducible first | exact HB.out | apply below_alloc | apply pw_below_drewN | apply below_drew1) | exact HB.out))) : w.heap.size ≤ gb1136)); clear HB; have HB := n0_; have BK1136 := n1_; have GW1136 := n2_; have GE1136 := n3_; clear n0_ n1_ n2_ n3_; clear hb hbox hg; have hcz21_0 : w20.cell? ⟨gb1136, 0, none⟩ = some (.int .i64 a0_0) := (blk_cell BK1136.out 0).trans rfl; have hcz21_1 : w20.cell? ⟨gb1136, 1, none⟩ = some (.int .i64 a0_1) := (blk_cell BK1136.out 1).trans rfl; have hcz21_2 : w20.cell? ⟨gb1136, 2, none⟩ = some (.int .i64 a0_2) := (blk_cell BK1136.out 2).trans rfl; have hcz21_3 : w20.cell? ⟨gb1136, 3, none⟩ = some (.int .i64 a0_3) := (blk_cell BK1136.out 3).trans rfl; have hcz21_4 : w20.cell? ⟨gb1136, 4, none⟩ = some (.int .i64 a0_4) := (blk_cell BK1136.out 4).trans rfl; have hcz21_5 : w20.cell? ⟨gb1136, 5, none⟩ = some (.string a0_5) := (blk_cell BK1136.out 5).trans rfl; have hfz21_0 := blk_frozen BK1136.out 0; have hfz21_1 := blk_frozen BK1136.out 1; have hfz21_2 := blk_frozen BK1136.out 2; have hfz21_3 := blk_frozen BK1136.out 3; have hfz21_4 := blk_frozen BK1136.out 4; have hfz21_5 := blk_frozen BK1136.out 5) | ((with_reducible refine gate_callee (f := 66) rfl ?_); refine goesL_ (some 5) rfl rfl Try.func66 (by kernel_rfl) rfl #[.int .i64 a0_0] rfl (by (try simp only [List.map_toArray, List.map_cons, List.map_nil]); first | done | rfl | (simp only [List.length_drop, List.length_take]; rfl)) ?_; (with_reducible refine (spec_l4Who.calls a0_0 true _ A2.out).mono ?_); rintro e w' ⟨rfl, ⟨nd, rfl⟩⟩; refine ⟨_, rfl, ?_⟩))
                go_ret
                exact ⟨by first | rfl | (simp [errW_none, errW_some] <;> rfl) | (simp [*, errW_none, errW_some] <;> rfl), by repeat (first | (with_reducible first | exact HB.out | apply below_alloc | apply pw_below_drewN | apply below_drew1 | refine below_set ?_ GE1136.out) | exact HB.out)⟩
              · rw [if_neg c19] at H
                have c19b0 : decide (3 ≤ a0_3) = false := decide_eq_false c19
                clear c19
                by_cases c22 : a0_4 ≥ 0
                · rw [if_pos c22] at H
                  have c22b0 : decide (0 ≤ a0_4) = true := decide_eq_true c22
                  clear c22
                  by_cases c23 : a0_4 ≤ 48
                  · rw [if_pos c23] at H
                    have c23b0 : decide (a0_4 ≤ 48) = true := decide_eq_true c23
                    clear c23
                    replace H := Option.bind_eq_some_iff.mp H
                    obtain ⟨t1138, A240, H⟩ := H
                    replace H : (if t1138 = true then (if a0_5.toList = ([] : List UInt8) then (some false) else (some (decide ((wrap64 (a0_4 + (a0_5.size : Int))) ≤ 48)))) else (some false)) = some r := H
                    have A24 := Aside0.mk A240
                    clear A240
                    by_cases c25 : t1138 = true
                    · subst c25
                      have H1 : (if a0_5.toList = ([] : List UInt8) then (some false) else (some (decide ((wrap64 (a0_4 + (a0_5.size : Int))) ≤ 48)))) = some r := by rw [if_pos rfl] at H; exact H
                      clear H
                      have H := H1
                      clear H1
                      by_cases c26 : a0_5.toList = ([] : List UInt8)
                      · rw [if_pos c26] at H
                        have c26b0 : (a0_5.toList == ([] : List UInt8)) = true := beq_iff_eq.mpr c26
                        have c26b1 : (a0_5.toList != ([] : List UInt8)) = false := bne_eq_false_iff_eq.mpr c26
                        clear c26
                        obtain rfl := Option.some.inj H
                        go_enter Try.func76, Try.ntmps76
                        go_wp2_with (first | ((with_reducible refine gate_dst (N := 1) rfl ?_); (try (refine gate_guard (by rfl) ?_; dsimp only)); refine box_event ?hg (N := 1) ?hd (cs := #[.int .i64 a0_0, .int .i64 a0_1, .int .i64 a0_2, .int .i64 a0_3, .int .i64 a0_4, .string a0_5]) (t := 63) ?hr ?_; (case hd => rfl); (case hg => rfl); (case hr => first | (go_simp; done) | (go_simp; rfl)); intro gb1136 hg w27 hbox hb; have n0_ := Aside0.mk (below_step (by repeat (first | (with_reducible first | exact HB.out | apply below_alloc | apply pw_below_drewN | apply below_drew1) | exact HB.out)) hb); have n1_ := Aside0.mk (hbox); have n2_ := Aside0.mk ((by rw [hg]; exact (below_size (by repeat (first | (with_reducible first | exact HB.out | apply below_alloc | apply pw_below_drewN | apply below_drew1) | exact HB.out))) : w.heap.size ≤ gb1136)); have n3_ := Aside0.mk ((by rw [hg]; exact (below_size (by repeat (first | (with_reducible first | exact HB.out | apply below_alloc | apply pw_below_drewN | apply below_drew1) | exact HB.out))) : w.heap.size ≤ gb1136)); clear HB; have HB := n0_; have BK1136 := n1_; have GW1136 := n2_; have GE1136 := n3_; clear n0_ n1_ n2_ n3_; clear hb hbox hg; have hcz28_0 : w27.cell? ⟨gb1136, 0, none⟩ = some (.int .i64 a0_0) := (blk_cell BK1136.out 0).trans rfl; have hcz28_1 : w27.cell? ⟨gb1136, 1, none⟩ = some (.int .i64 a0_1) := (blk_cell BK1136.out 1).trans rfl; have hcz28_2 : w27.cell? ⟨gb1136, 2, none⟩ = some (.int .i64 a0_2) := (blk_cell BK1136.out 2).trans rfl; have hcz28_3 : w27.cell? ⟨gb1136, 3, none⟩ = some (.int .i64 a0_3) := (blk_cell BK1136.out 3).trans rfl; have hcz28_4 : w27.cell? ⟨gb1136, 4, none⟩ = some (.int .i64 a0_4) := (blk_cell BK1136.out 4).trans rfl; have hcz28_5 : w27.cell? ⟨gb1136, 5, none⟩ = some (.string a0_5) := (blk_cell BK1136.out 5).trans rfl; have hfz28_0 := blk_frozen BK1136.out 0; have hfz28_1 := blk_frozen BK1136.out 1; have hfz28_2 := blk_frozen BK1136.out 2; have hfz28_3 := blk_frozen BK1136.out 3; have hfz28_4 := blk_frozen BK1136.out 4; have hfz28_5 := blk_frozen BK1136.out 5) | ((with_reducible refine gate_callee (f := 66) rfl ?_); refine goesL_ (some 5) rfl rfl Try.func66 (by kernel_rfl) rfl #[.int .i64 a0_0] rfl (by (try simp only [List.map_toArray, List.map_cons, List.map_nil]); first | done | rfl | (simp only [List.length_drop, List.length_take]; rfl)) ?_; (with_reducible refine (spec_l4Who.calls a0_0 true _ A2.out).mono ?_); rintro e w' ⟨rfl, ⟨nd, rfl⟩⟩; refine ⟨_, rfl, ?_⟩) | (go_at_call 74; (with_reducible refine (spec_TextOk.calls k a0_5 true _ A24.out).mono ?_); rintro e w' ⟨rfl, ⟨nd, rfl⟩⟩))
                        go_ret
                        exact ⟨by first | rfl | (simp [errW_none, errW_some] <;> rfl) | (simp [*, errW_none, errW_some] <;> rfl), by repeat (first | (with_reducible first | exact HB.out | apply below_alloc | apply pw_below_drewN | apply below_drew1 | refine below_set ?_ GE1136.out) | exact HB.out)⟩
                      · rw [if_neg c26] at H
                        have c26b0 : (a0_5.toList == ([] : List UInt8)) = false := beq_eq_false_iff_ne.mpr c26
                        have c26b1 : (a0_5.toList != ([] : List UInt8)) = true := bne_iff_ne.mpr c26
                        obtain rfl := Option.some.inj H
                        go_enter Try.func76, Try.ntmps76
                        go_wp2_with (first | ((with_reducible refine gate_dst (N := 1) rfl ?_); (try (refine gate_guard (by rfl) ?_; dsimp only)); refine box_event ?hg (N := 1) ?hd (cs := #[.int .i64 a0_0, .int .i64 a0_1, .int .i64 a0_2, .int .i64 a0_3, .int .i64 a0_4, .string a0_5]) (t := 63) ?hr ?_; (case hd => rfl); (case hg => rfl); (case hr => first | (go_simp; done) | (go_simp; rfl)); intro gb1136 hg w29 hbox hb; have n0_ := Aside0.mk (below_step (by repeat (first | (with_reducible first | exact HB.out | apply below_alloc | apply pw_below_drewN | apply below_drew1) | exact HB.out)) hb); have n1_ := Aside0.mk (hbox); have n2_ := Aside0.mk ((by rw [hg]; exact (below_size (by repeat (first | (with_reducible first | exact HB.out | apply below_alloc | apply pw_below_drewN | apply below_drew1) | exact HB.out))) : w.heap.size ≤ gb1136)); have n3_ := Aside0.mk ((by rw [hg]; exact (below_size (by repeat (first | (with_reducible first | exact HB.out | apply below_alloc | apply pw_below_drewN | apply below_drew1) | exact HB.out))) : w.heap.size ≤ gb1136)); clear HB; have HB := n0_; have BK1136 := n1_; have GW1136 := n2_; have GE1136 := n3_; clear n0_ n1_ n2_ n3_; clear hb hbox hg; have hcz30_0 : w29.cell? ⟨gb1136, 0, none⟩ = some (.int .i64 a0_0) := (blk_cell BK1136.out 0).trans rfl; have hcz30_1 : w29.cell? ⟨gb1136, 1, none⟩ = some (.int .i64 a0_1) := (blk_cell BK1136.out 1).trans rfl; have hcz30_2 : w29.cell? ⟨gb1136, 2, none⟩ = some (.int .i64 a0_2) := (blk_cell BK1136.out 2).trans rfl; have hcz30_3 : w29.cell? ⟨gb1136, 3, none⟩ = some (.int .i64 a0_3) := (blk_cell BK1136.out 3).trans rfl; have hcz30_4 : w29.cell? ⟨gb1136, 4, none⟩ = some (.int .i64 a0_4) := (blk_cell BK1136.out 4).trans rfl; have hcz30_5 : w29.cell? ⟨gb1136, 5, none⟩ = some (.string a0_5) := (blk_cell BK1136.out 5).trans rfl; have hfz30_0 := blk_frozen BK1136.out 0; have hfz30_1 := blk_frozen BK1136.out 1; have hfz30_2 := blk_frozen BK1136.out 2; have hfz30_3 := blk_frozen BK1136.out 3; have hfz30_4 := blk_frozen BK1136.out 4; have hfz30_5 := blk_frozen BK1136.out 5) | ((with_reducible refine gate_callee (f := 66) rfl ?_); refine goesL_ (some 5) rfl rfl Try.func66 (by kernel_rfl) rfl #[.int .i64 a0_0] rfl (by (try simp only [List.map_toArray, List.map_cons, List.map_nil]); first | done | rfl | (simp only [List.length_drop, List.length_take]; rfl)) ?_; (with_reducible refine (spec_l4Who.calls a0_0 true _ A2.out).mono ?_); rintro e w' ⟨rfl, ⟨nd, rfl⟩⟩; refine ⟨_, rfl, ?_⟩) | (go_at_call 74; (with_reducible refine (spec_TextOk.calls k a0_5 true _ A24.out).mono ?_); rintro e w' ⟨rfl, ⟨nd, rfl⟩⟩))
                        go_ret
                        exact ⟨by first | rfl | (simp [errW_none, errW_some] <;> rfl) | (simp [*, errW_none, errW_some] <;> rfl), by repeat (first | (with_reducible first | exact HB.out | apply below_alloc | apply pw_below_drewN | apply below_drew1 | refine below_set ?_ GE1136.out) | exact HB.out)⟩
                    · replace c25 := Bool.eq_false_iff.mpr c25
                      subst c25
                      have H1 : (some false) = some r := by rw [if_neg (show ¬ (false = true) by decide)] at H; exact H
                      clear H
                      have H := H1
                      clear H1
                      obtain rfl := Option.some.inj H
                      go_enter Try.func76, Try.ntmps76
                      go_wp2_with (first | ((with_reducible refine gate_dst (N := 1) rfl ?_); (try (refine gate_guard (by rfl) ?_; dsimp only)); refine box_event ?hg (N := 1) ?hd (cs := #[.int .i64 a0_0, .int .i64 a0_1, .int .i64 a0_2, .int .i64 a0_3, .int .i64 a0_4, .string a0_5]) (t := 63) ?hr ?_; (case hd => rfl); (case hg => rfl); (case hr => first | (go_simp; done) | (go_simp; rfl)); intro gb1136 hg w31 hbox hb; have n0_ := Aside0.mk (below_step (by repeat (first | (with_reducible first | exact HB.out | apply below_alloc | apply pw_below_drewN | apply below_drew1) | exact HB.out)) hb); have n1_ := Aside0.mk (hbox); have n2_ := Aside0.mk ((by rw [hg]; exact (below_size (by repeat (first | (with_reducible first | exact HB.out | apply below_alloc | apply pw_below_drewN | apply below_drew1) | exact HB.out))) : w.heap.size ≤ gb1136)); have n3_ := Aside0.mk ((by rw [hg]; exact (below_size (by repeat (first | (with_reducible first | exact HB.out | apply below_alloc | apply pw_below_drewN | apply below_drew1) | exact HB.out))) : w.heap.size ≤ gb1136)); clear HB; have HB := n0_; have BK1136 := n1_; have GW1136 := n2_; have GE1136 := n3_; clear n0_ n1_ n2_ n3_; clear hb hbox hg; have hcz32_0 : w31.cell? ⟨gb1136, 0, none⟩ = some (.int .i64 a0_0) := (blk_cell BK1136.out 0).trans rfl; have hcz32_1 : w31.cell? ⟨gb1136, 1, none⟩ = some (.int .i64 a0_1) := (blk_cell BK1136.out 1).trans rfl; have hcz32_2 : w31.cell? ⟨gb1136, 2, none⟩ = some (.int .i64 a0_2) := (blk_cell BK1136.out 2).trans rfl; have hcz32_3 : w31.cell? ⟨gb1136, 3, none⟩ = some (.int .i64 a0_3) := (blk_cell BK1136.out 3).trans rfl; have hcz32_4 : w31.cell? ⟨gb1136, 4, none⟩ = some (.int .i64 a0_4) := (blk_cell BK1136.out 4).trans rfl; have hcz32_5 : w31.cell? ⟨gb1136, 5, none⟩ = some (.string a0_5) := (blk_cell BK1136.out 5).trans rfl; have hfz32_0 := blk_frozen BK1136.out 0; have hfz32_1 := blk_frozen BK1136.out 1; have hfz32_2 := blk_frozen BK1136.out 2; have hfz32_3 := blk_frozen BK1136.out 3; have hfz32_4 := blk_frozen BK1136.out 4; have hfz32_5 := blk_frozen BK1136.out 5) | ((with_reducible refine gate_callee (f := 66) rfl ?_); refine goesL_ (some 5) rfl rfl Try.func66 (by kernel_rfl) rfl #[.int .i64 a0_0] rfl (by (try simp only [List.map_toArray, List.map_cons, List.map_nil]); first | done | rfl | (simp only [List.length_drop, List.length_take]; rfl)) ?_; (with_reducible refine (spec_l4Who.calls a0_0 true _ A2.out).mono ?_); rintro e w' ⟨rfl, ⟨nd, rfl⟩⟩; refine ⟨_, rfl, ?_⟩) | (go_at_call 74; (with_reducible refine (spec_TextOk.calls k a0_5 false _ A24.out).mono ?_); rintro e w' ⟨rfl, ⟨nd, rfl⟩⟩))
                      go_ret
                      exact ⟨by first | rfl | (simp [errW_none, errW_some] <;> rfl) | (simp [*, errW_none, errW_some] <;> rfl), by repeat (first | (with_reducible first | exact HB.out | apply below_alloc | apply pw_below_drewN | apply below_drew1 | refine below_set ?_ GE1136.out) | exact HB.out)⟩
                  · rw [if_neg c23] at H
                    have c23b0 : decide (a0_4 ≤ 48) = false := decide_eq_false c23
                    clear c23
                    obtain rfl := Option.some.inj H
                    go_enter Try.func76, Try.ntmps76
                    go_wp2_with (first | ((with_reducible refine gate_dst (N := 1) rfl ?_); (try (refine gate_guard (by rfl) ?_; dsimp only)); refine box_event ?hg (N := 1) ?hd (cs := #[.int .i64 a0_0, .int .i64 a0_1, .int .i64 a0_2, .int .i64 a0_3, .int .i64 a0_4, .string a0_5]) (t := 63) ?hr ?_; (case hd => rfl); (case hg => rfl); (case hr => first | (go_simp; done) | (go_simp; rfl)); intro gb1136 hg w33 hbox hb; have n0_ := Aside0.mk (below_step (by repeat (first | (with_reducible first | exact HB.out | apply below_alloc | apply pw_below_drewN | apply below_drew1) | exact HB.out)) hb); have n1_ := Aside0.mk (hbox); have n2_ := Aside0.mk ((by rw [hg]; exact (below_size (by repeat (first | (with_reducible first | exact HB.out | apply below_alloc | apply pw_below_drewN | apply below_drew1) | exact HB.out))) : w.heap.size ≤ gb1136)); have n3_ := Aside0.mk ((by rw [hg]; exact (below_size (by repeat (first | (with_reducible first | exact HB.out | apply below_alloc | apply pw_below_drewN | apply below_drew1) | exact HB.out))) : w.heap.size ≤ gb1136)); clear HB; have HB := n0_; have BK1136 := n1_; have GW1136 := n2_; have GE1136 := n3_; clear n0_ n1_ n2_ n3_; clear hb hbox hg; have hcz34_0 : w33.cell? ⟨gb1136, 0, none⟩ = some (.int .i64 a0_0) := (blk_cell BK1136.out 0).trans rfl; have hcz34_1 : w33.cell? ⟨gb1136, 1, none⟩ = some (.int .i64 a0_1) := (blk_cell BK1136.out 1).trans rfl; have hcz34_2 : w33.cell? ⟨gb1136, 2, none⟩ = some (.int .i64 a0_2) := (blk_cell BK1136.out 2).trans rfl; have hcz34_3 : w33.cell? ⟨gb1136, 3, none⟩ = some (.int .i64 a0_3) := (blk_cell BK1136.out 3).trans rfl; have hcz34_4 : w33.cell? ⟨gb1136, 4, none⟩ = some (.int .i64 a0_4) := (blk_cell BK1136.out 4).trans rfl; have hcz34_5 : w33.cell? ⟨gb1136, 5, none⟩ = some (.string a0_5) := (blk_cell BK1136.out 5).trans rfl; have hfz34_0 := blk_frozen BK1136.out 0; have hfz34_1 := blk_frozen BK1136.out 1; have hfz34_2 := blk_frozen BK1136.out 2; have hfz34_3 := blk_frozen BK1136.out 3; have hfz34_4 := blk_frozen BK1136.out 4; have hfz34_5 := blk_frozen BK1136.out 5) | ((with_reducible refine gate_callee (f := 66) rfl ?_); refine goesL_ (some 5) rfl rfl Try.func66 (by kernel_rfl) rfl #[.int .i64 a0_0] rfl (by (try simp only [List.map_toArray, List.map_cons, List.map_nil]); first | done | rfl | (simp only [List.length_drop, List.length_take]; rfl)) ?_; (with_reducible refine (spec_l4Who.calls a0_0 true _ A2.out).mono ?_); rintro e w' ⟨rfl, ⟨nd, rfl⟩⟩; refine ⟨_, rfl, ?_⟩))
                    go_ret
                    exact ⟨by first | rfl | (simp [errW_none, errW_some] <;> rfl) | (simp [*, errW_none, errW_some] <;> rfl), by repeat (first | (with_reducible first | exact HB.out | apply below_alloc | apply pw_below_drewN | apply below_drew1 | refine below_set ?_ GE1136.out) | exact HB.out)⟩
                · rw [if_neg c22] at H
                  have c22b0 : decide (0 ≤ a0_4) = false := decide_eq_false c22
                  clear c22
                  obtain rfl := Option.some.inj H
                  go_enter Try.func76, Try.ntmps76
                  go_wp2_with (first | ((with_reducible refine gate_dst (N := 1) rfl ?_); (try (refine gate_guard (by rfl) ?_; dsimp only)); refine box_event ?hg (N := 1) ?hd (cs := #[.int .i64 a0_0, .int .i64 a0_1, .int .i64 a0_2, .int .i64 a0_3, .int .i64 a0_4, .string a0_5]) (t := 63) ?hr ?_; (case hd => rfl); (case hg => rfl); (case hr => first | (go_simp; done) | (go_simp; rfl)); intro gb1136 hg w35 hbox hb; have n0_ := Aside0.mk (below_step (by repeat (first | (with_reducible first | exact HB.out | apply below_alloc | apply pw_below_drewN | apply below_drew1) | exact HB.out)) hb); have n1_ := Aside0.mk (hbox); have n2_ := Aside0.mk ((by rw [hg]; exact (below_size (by repeat (first | (with_reducible first | exact HB.out | apply below_alloc | apply pw_below_drewN | apply below_drew1) | exact HB.out))) : w.heap.size ≤ gb1136)); have n3_ := Aside0.mk ((by rw [hg]; exact (below_size (by repeat (first | (with_reducible first | exact HB.out | apply below_alloc | apply pw_below_drewN | apply below_drew1) | exact HB.out))) : w.heap.size ≤ gb1136)); clear HB; have HB := n0_; have BK1136 := n1_; have GW1136 := n2_; have GE1136 := n3_; clear n0_ n1_ n2_ n3_; clear hb hbox hg; have hcz36_0 : w35.cell? ⟨gb1136, 0, none⟩ = some (.int .i64 a0_0) := (blk_cell BK1136.out 0).trans rfl; have hcz36_1 : w35.cell? ⟨gb1136, 1, none⟩ = some (.int .i64 a0_1) := (blk_cell BK1136.out 1).trans rfl; have hcz36_2 : w35.cell? ⟨gb1136, 2, none⟩ = some (.int .i64 a0_2) := (blk_cell BK1136.out 2).trans rfl; have hcz36_3 : w35.cell? ⟨gb1136, 3, none⟩ = some (.int .i64 a0_3) := (blk_cell BK1136.out 3).trans rfl; have hcz36_4 : w35.cell? ⟨gb1136, 4, none⟩ = some (.int .i64 a0_4) := (blk_cell BK1136.out 4).trans rfl; have hcz36_5 : w35.cell? ⟨gb1136, 5, none⟩ = some (.string a0_5) := (blk_cell BK1136.out 5).trans rfl; have hfz36_0 := blk_frozen BK1136.out 0; have hfz36_1 := blk_frozen BK1136.out 1; have hfz36_2 := blk_frozen BK1136.out 2; have hfz36_3 := blk_frozen BK1136.out 3; have hfz36_4 := blk_frozen BK1136.out 4; have hfz36_5 := blk_frozen BK1136.out 5) | ((with_reducible refine gate_callee (f := 66) rfl ?_); refine goesL_ (some 5) rfl rfl Try.func66 (by kernel_rfl) rfl #[.int .i64 a0_0] rfl (by (try simp only [List.map_toArray, List.map_cons, List.map_nil]); first | done | rfl | (simp only [List.length_drop, List.length_take]; rfl)) ?_; (with_reducible refine (spec_l4Who.calls a0_0 true _ A2.out).mono ?_); rintro e w' ⟨rfl, ⟨nd, rfl⟩⟩; refine ⟨_, rfl, ?_⟩))
                  go_ret
                  exact ⟨by first | rfl | (simp [errW_none, errW_some] <;> rfl) | (simp [*, errW_none, errW_some] <;> rfl), by repeat (first | (with_reducible first | exact HB.out | apply below_alloc | apply pw_below_drewN | apply below_drew1 | refine below_set ?_ GE1136.out) | exact HB.out)⟩
  · replace c3 := Bool.eq_false_iff.mpr c3
    subst c3
    have H1 : (some false) = some r := by rw [if_neg (show ¬ (false = true) by decide)] at H; exact H
    clear H
    have H := H1
    clear H1
    obtain rfl := Option.some.inj H
    go_enter Try.func76, Try.ntmps76
    go_wp2_with (first | ((with_reducible refine gate_dst (N := 1) rfl ?_); (try (refine gate_guard (by rfl) ?_; dsimp only)); refine box_event ?hg (N := 1) ?hd (cs := #[.int .i64 a0_0, .int .i64 a0_1, .int .i64 a0_2, .int .i64 a0_3, .int .i64 a0_4, .string a0_5]) (t := 63) ?hr ?_; (case hd => rfl); (case hg => rfl); (case hr => first | (go_simp; done) | (go_simp; rfl)); intro gb1136 hg w37 hbox hb; have n0_ := Aside0.mk (below_step (by repeat (first | (with_reducible first | exact HB.out | apply below_alloc | apply pw_below_drewN | apply below_drew1) | exact HB.out)) hb); have n1_ := Aside0.mk (hbox); have n2_ := Aside0.mk ((by rw [hg]; exact (below_size (by repeat (first | (with_reducible first | exact HB.out | apply below_alloc | apply pw_below_drewN | apply below_drew1) | exact HB.out))) : w.heap.size ≤ gb1136)); have n3_ := Aside0.mk ((by rw [hg]; exact (below_size (by repeat (first | (with_reducible first | exact HB.out | apply below_alloc | apply pw_below_drewN | apply below_drew1) | exact HB.out))) : w.heap.size ≤ gb1136)); clear HB; have HB := n0_; have BK1136 := n1_; have GW1136 := n2_; have GE1136 := n3_; clear n0_ n1_ n2_ n3_; clear hb hbox hg; have hcz38_0 : w37.cell? ⟨gb1136, 0, none⟩ = some (.int .i64 a0_0) := (blk_cell BK1136.out 0).trans rfl; have hcz38_1 : w37.cell? ⟨gb1136, 1, none⟩ = some (.int .i64 a0_1) := (blk_cell BK1136.out 1).trans rfl; have hcz38_2 : w37.cell? ⟨gb1136, 2, none⟩ = some (.int .i64 a0_2) := (blk_cell BK1136.out 2).trans rfl; have hcz38_3 : w37.cell? ⟨gb1136, 3, none⟩ = some (.int .i64 a0_3) := (blk_cell BK1136.out 3).trans rfl; have hcz38_4 : w37.cell? ⟨gb1136, 4, none⟩ = some (.int .i64 a0_4) := (blk_cell BK1136.out 4).trans rfl; have hcz38_5 : w37.cell? ⟨gb1136, 5, none⟩ = some (.string a0_5) := (blk_cell BK1136.out 5).trans rfl; have hfz38_0 := blk_frozen BK1136.out 0; have hfz38_1 := blk_frozen BK1136.out 1; have hfz38_2 := blk_frozen BK1136.out 2; have hfz38_3 := blk_frozen BK1136.out 3; have hfz38_4 := blk_frozen BK1136.out 4; have hfz38_5 := blk_frozen BK1136.out 5) | ((with_reducible refine gate_callee (f := 66) rfl ?_); refine goesL_ (some 5) rfl rfl Try.func66 (by kernel_rfl) rfl #[.int .i64 a0_0] rfl (by (try simp only [List.map_toArray, List.map_cons, List.map_nil]); first | done | rfl | (simp only [List.length_drop, List.length_take]; rfl)) ?_; (with_reducible refine (spec_l4Who.calls a0_0 false _ A2.out).mono ?_); rintro e w' ⟨rfl, ⟨nd, rfl⟩⟩; refine ⟨_, rfl, ?_⟩))
    go_ret
    exact ⟨by first | rfl | (simp [errW_none, errW_some] <;> rfl) | (simp [*, errW_none, errW_some] <;> rfl), by repeat (first | (with_reducible first | exact HB.out | apply below_alloc | apply pw_below_drewN | apply below_drew1 | refine below_set ?_ GE1136.out) | exact HB.out)⟩
end Go.Proofs.Ytolmblfffnnabaa.P
namespace Go.Proofs.Ytolmblfffnnabaa.P
open Go.RowKit Go.Proofs.YtolmblfffnnabaaW.PrintWords Go.Proofs.YtolmblfffnnabaaW.PrintLast Go.Proofs.YtolmblfffnnabaaW.PrintMore
attribute [local go_sem] max2_int min2_int max_two min_two max_three min_three max_four min_four   
set_option linter.unusedVariables false
set_option linter.unusedSimpArgs false
def impl_client.f (a0 : Int) : Option (Bool) := if a0 ≥ 0 then (some (decide (a0 < 3))) else (some false)
set_option maxHeartbeats 8000000 in
set_option maxRecDepth 100000 in
theorem impl_client.calls (a0 : Int) (r : Bool) (w : World) (h : impl_client.f a0 = some r) :
    Calls Try.prog 68 #[.int .i64 a0] w fun e w' => e = .returned (.bool r) ∧ Drawn0 w w' := by
  have H : (if a0 ≥ 0 then (some (decide (a0 < 3))) else (some false)) = some r := h
  clear h
  by_cases c2 : a0 ≥ 0
  · rw [if_pos c2] at H
    have c2b0 : decide (0 ≤ a0) = true := decide_eq_true c2
    clear c2
    obtain rfl := Option.some.inj H
    go_enter Try.func68, Try.ntmps68
    go_wp2
    go_ret
    exact ⟨by first | rfl | (simp; done) | (simp [*]; done), by repeat (first | exact Drawn0.refl _ | apply Drawn0.step)⟩
  · rw [if_neg c2] at H
    have c2b0 : decide (0 ≤ a0) = false := decide_eq_false c2
    clear c2
    obtain rfl := Option.some.inj H
    go_enter Try.func68, Try.ntmps68
    go_wp2
    go_ret
    exact ⟨by first | rfl | (simp; done) | (simp [*]; done), by repeat (first | exact Drawn0.refl _ | apply Drawn0.step)⟩
end Go.Proofs.Ytolmblfffnnabaa.P
namespace Go.Proofs.Ytolmblfffnnabaa.P
open Go.RowKit Go.Proofs.YtolmblfffnnabaaW.PrintWords Go.Proofs.YtolmblfffnnabaaW.PrintLast Go.Proofs.YtolmblfffnnabaaW.PrintMore
attribute [local go_sem] max2_int min2_int max_two min_two max_three min_three max_four min_four   
set_option linter.unusedVariables false
set_option linter.unusedSimpArgs false
def impl_formed.f (k : Nat) (a0_0 : Int) (a0_1 : Int) (a0_2 : Int) (a0_3 : Int) (a0_4 : Int) (a0_5 : ByteArray) : Option (Bool) := (impl_TextWrite.f k (⟨#[]⟩ : ByteArray) a0_4 a0_5).bind fun bt1215 => ((impl_client.f a0_0).bind fun t1217 => (if t1217 = true then (if a0_1 ≥ 0 then (if a0_1 ≤ 100 then (if a0_2 ≥ 1 then (if a0_2 ≤ 1000 then (if a0_3 ≥ 0 then (if a0_3 < 3 then (some bt1215.2) else (some false)) else (some false)) else (some false)) else (some false)) else (some false)) else (some false)) else (some false)))
set_option maxHeartbeats 8000000 in
set_option maxRecDepth 100000 in
theorem impl_formed.calls (k : Nat) (a0_0 : Int) (a0_1 : Int) (a0_2 : Int) (a0_3 : Int) (a0_4 : Int) (a0_5 : ByteArray) (r : Bool) (w : World) (h : impl_formed.f k a0_0 a0_1 a0_2 a0_3 a0_4 a0_5 = some r) :
    Calls Try.prog 72 #[.agg #[.int .i64 a0_0, .int .i64 a0_1, .int .i64 a0_2, .int .i64 a0_3, .int .i64 a0_4, .string a0_5]] w fun e w' => e = .returned (.bool r) ∧ Below w.heap.size w w' := by
  have hu63 := Try.underlying63
  have HB := Aside0.mk (Below.refl w.heap.size w)
  have H : ((impl_TextWrite.f k (⟨#[]⟩ : ByteArray) a0_4 a0_5).bind fun bt1215 => ((impl_client.f a0_0).bind fun t1217 => (if t1217 = true then (if a0_1 ≥ 0 then (if a0_1 ≤ 100 then (if a0_2 ≥ 1 then (if a0_2 ≤ 1000 then (if a0_3 ≥ 0 then (if a0_3 < 3 then (some bt1215.2) else (some false)) else (some false)) else (some false)) else (some false)) else (some false)) else (some false)) else (some false)))) = some r := h
  clear h
  replace H := Option.bind_eq_some_iff.mp H
  obtain ⟨⟨t1215, t1216⟩, A20, H⟩ := H
  replace H : ((impl_client.f a0_0).bind fun t1217 => (if t1217 = true then (if a0_1 ≥ 0 then (if a0_1 ≤ 100 then (if a0_2 ≥ 1 then (if a0_2 ≤ 1000 then (if a0_3 ≥ 0 then (if a0_3 < 3 then (some t1216) else (some false)) else (some false)) else (some false)) else (some false)) else (some false)) else (some false)) else (some false))) = some r := H
  have A2 := Aside0.mk A20
  clear A20
  replace H := Option.bind_eq_some_iff.mp H
  obtain ⟨t1217, A30, H⟩ := H
  replace H : (if t1217 = true then (if a0_1 ≥ 0 then (if a0_1 ≤ 100 then (if a0_2 ≥ 1 then (if a0_2 ≤ 1000 then (if a0_3 ≥ 0 then (if a0_3 < 3 then (some t1216) else (some false)) else (some false)) else (some false)) else (some false)) else (some false)) else (some false)) else (some false)) = some r := H
  have A3 := Aside0.mk A30
  clear A30
  by_cases c4 : t1217 = true
  · subst c4
    have H1 : (if a0_1 ≥ 0 then (if a0_1 ≤ 100 then (if a0_2 ≥ 1 then (if a0_2 ≤ 1000 then (if a0_3 ≥ 0 then (if a0_3 < 3 then (some t1216) else (some false)) else (some false)) else (some false)) else (some false)) else (some false)) else (some false)) = some r := by rw [if_pos rfl] at H; exact H
    clear H
    have H := H1
    clear H1
    by_cases c5 : a0_1 ≥ 0
    · rw [if_pos c5] at H
      have c5b0 : decide (0 ≤ a0_1) = true := decide_eq_true c5
      clear c5
      by_cases c6 : a0_1 ≤ 100
      · rw [if_pos c6] at H
        have c6b0 : decide (a0_1 ≤ 100) = true := decide_eq_true c6
        clear c6
        by_cases c7 : a0_2 ≥ 1
        · rw [if_pos c7] at H
          have c7b0 : decide (1 ≤ a0_2) = true := decide_eq_true c7
          clear c7
          by_cases c8 : a0_2 ≤ 1000
          · rw [if_pos c8] at H
            have c8b0 : decide (a0_2 ≤ 1000) = true := decide_eq_true c8
            clear c8
            by_cases c9 : a0_3 ≥ 0
            · rw [if_pos c9] at H
              have c9b0 : decide (0 ≤ a0_3) = true := decide_eq_true c9
              clear c9
              by_cases c10 : a0_3 < 3
              · rw [if_pos c10] at H
                have c10b0 : decide (a0_3 < 3) = true := decide_eq_true c10
                clear c10
                obtain rfl := Option.some.inj H
                go_enter Try.func72, Try.ntmps72
                go_wp2_with (first | ((with_reducible refine gate_dst (N := 1) rfl ?_); refine box_event ?hg (N := 1) ?hd (cs := #[.int .i64 a0_0, .int .i64 a0_1, .int .i64 a0_2, .int .i64 a0_3, .int .i64 a0_4, .string a0_5]) (t := 63) ?hr ?_; (case hd => rfl); (case hg => rfl); (case hr => first | (go_simp; done) | (go_simp; rfl)); intro gb1214 hg w11 hbox hb; have n0_ := Aside0.mk (below_step (by repeat (first | (with_reducible first | exact HB.out | apply below_alloc | apply pw_below_drewN | apply below_drew1) | exact HB.out)) hb); have n1_ := Aside0.mk (hbox); have n2_ := Aside0.mk ((by rw [hg]; exact (below_size (by repeat (first | (with_reducible first | exact HB.out | apply below_alloc | apply pw_below_drewN | apply below_drew1) | exact HB.out))) : w.heap.size ≤ gb1214)); have n3_ := Aside0.mk ((by rw [hg]; exact (below_size (by repeat (first | (with_reducible first | exact HB.out | apply below_alloc | apply pw_below_drewN | apply below_drew1) | exact HB.out))) : w.heap.size ≤ gb1214)); clear HB; have HB := n0_; have BK1214 := n1_; have GW1214 := n2_; have GE1214 := n3_; clear n0_ n1_ n2_ n3_; clear hb hbox hg; have hcz12_0 : w11.cell? ⟨gb1214, 0, none⟩ = some (.int .i64 a0_0) := (blk_cell BK1214.out 0).trans rfl; have hcz12_1 : w11.cell? ⟨gb1214, 1, none⟩ = some (.int .i64 a0_1) := (blk_cell BK1214.out 1).trans rfl; have hcz12_2 : w11.cell? ⟨gb1214, 2, none⟩ = some (.int .i64 a0_2) := (blk_cell BK1214.out 2).trans rfl; have hcz12_3 : w11.cell? ⟨gb1214, 3, none⟩ = some (.int .i64 a0_3) := (blk_cell BK1214.out 3).trans rfl; have hcz12_4 : w11.cell? ⟨gb1214, 4, none⟩ = some (.int .i64 a0_4) := (blk_cell BK1214.out 4).trans rfl; have hcz12_5 : w11.cell? ⟨gb1214, 5, none⟩ = some (.string a0_5) := (blk_cell BK1214.out 5).trans rfl; have hfz12_0 := blk_frozen BK1214.out 0; have hfz12_1 := blk_frozen BK1214.out 1; have hfz12_2 := blk_frozen BK1214.out 2; have hfz12_3 := blk_frozen BK1214.out 3; have hfz12_4 := blk_frozen BK1214.out 4; have hfz12_5 := blk_frozen BK1214.out 5) | ((with_reducible refine gate_callee (f := 73) rfl ?_); refine goesL_ (some 10) rfl rfl Try.func73 (by kernel_rfl) rfl #[.string (⟨#[]⟩ : ByteArray), .int .i64 a0_4, .string a0_5] rfl (by (try simp only [List.map_toArray, List.map_cons, List.map_nil]); first | done | rfl | (simp only [List.length_drop, List.length_take]; rfl)) ?_; (with_reducible refine (impl_TextWrite.calls k (⟨#[]⟩ : ByteArray) a0_4 a0_5 t1215 t1216 _ A2.out).mono ?_); rintro e w13 ⟨rfl, hb⟩; refine ⟨_, rfl, ?_⟩; have n0_ := Aside0.mk (blk_below (g := gb1214) (o := .cells #[.int .i64 a0_0, .int .i64 a0_1, .int .i64 a0_2, .int .i64 a0_3, .int .i64 a0_4, .string a0_5] 63 (0, 0)) (by (with_reducible repeat (first | refine blk_drewN ?_ _ | refine blk_drew ?_ | refine blk_alloc ?_ _)); exact BK1214.out) hb); have n1_ := Aside0.mk (below_step (by repeat (first | (with_reducible first | exact HB.out | apply below_alloc | apply pw_below_drewN | apply below_drew1 | refine below_set ?_ GE1214.out) | exact HB.out)) hb); clear BK1214; clear HB; have BK1214 := n0_; have HB := n1_; clear n0_ n1_; (try clear hb); (try clear hb2); (try clear hk); (try clear hi); have hcz14_0 : w13.cell? ⟨gb1214, 0, none⟩ = some (.int .i64 a0_0) := (blk_cell BK1214.out 0).trans rfl; have hcz14_1 : w13.cell? ⟨gb1214, 1, none⟩ = some (.int .i64 a0_1) := (blk_cell BK1214.out 1).trans rfl; have hcz14_2 : w13.cell? ⟨gb1214, 2, none⟩ = some (.int .i64 a0_2) := (blk_cell BK1214.out 2).trans rfl; have hcz14_3 : w13.cell? ⟨gb1214, 3, none⟩ = some (.int .i64 a0_3) := (blk_cell BK1214.out 3).trans rfl; have hcz14_4 : w13.cell? ⟨gb1214, 4, none⟩ = some (.int .i64 a0_4) := (blk_cell BK1214.out 4).trans rfl; have hcz14_5 : w13.cell? ⟨gb1214, 5, none⟩ = some (.string a0_5) := (blk_cell BK1214.out 5).trans rfl; have hfz14_0 := blk_frozen BK1214.out 0; have hfz14_1 := blk_frozen BK1214.out 1; have hfz14_2 := blk_frozen BK1214.out 2; have hfz14_3 := blk_frozen BK1214.out 3; have hfz14_4 := blk_frozen BK1214.out 4; have hfz14_5 := blk_frozen BK1214.out 5) | ((with_reducible refine gate_callee (f := 68) rfl ?_); refine goesL_ (some 15) rfl rfl Try.func68 (by kernel_rfl) rfl #[.int .i64 a0_0] rfl (by (try simp only [List.map_toArray, List.map_cons, List.map_nil]); first | done | rfl | (simp only [List.length_drop, List.length_take]; rfl)) ?_; (with_reducible refine (impl_client.calls a0_0 true _ A3.out).mono ?_); rintro e w' ⟨rfl, ⟨nd, rfl⟩⟩; refine ⟨_, rfl, ?_⟩))
                go_ret
                exact ⟨by first | rfl | (simp [errW_none, errW_some] <;> rfl) | (simp [*, errW_none, errW_some] <;> rfl), by repeat (first | (with_reducible first | exact HB.out | apply below_alloc | apply pw_below_drewN | apply below_drew1 | refine below_set ?_ GE1214.out) | exact HB.out)⟩
              · rw [if_neg c10] at H
                have c10b0 : decide (a0_3 < 3) = false := decide_eq_false c10
                clear c10
                obtain rfl := Option.some.inj H
                go_enter Try.func72, Try.ntmps72
                go_wp2_with (first | ((with_reducible refine gate_dst (N := 1) rfl ?_); refine box_event ?hg (N := 1) ?hd (cs := #[.int .i64 a0_0, .int .i64 a0_1, .int .i64 a0_2, .int .i64 a0_3, .int .i64 a0_4, .string a0_5]) (t := 63) ?hr ?_; (case hd => rfl); (case hg => rfl); (case hr => first | (go_simp; done) | (go_simp; rfl)); intro gb1214 hg w15 hbox hb; have n0_ := Aside0.mk (below_step (by repeat (first | (with_reducible first | exact HB.out | apply below_alloc | apply pw_below_drewN | apply below_drew1) | exact HB.out)) hb); have n1_ := Aside0.mk (hbox); have n2_ := Aside0.mk ((by rw [hg]; exact (below_size (by repeat (first | (with_reducible first | exact HB.out | apply below_alloc | apply pw_below_drewN | apply below_drew1) | exact HB.out))) : w.heap.size ≤ gb1214)); have n3_ := Aside0.mk ((by rw [hg]; exact (below_size (by repeat (first | (with_reducible first | exact HB.out | apply below_alloc | apply pw_below_drewN | apply below_drew1) | exact HB.out))) : w.heap.size ≤ gb1214)); clear HB; have HB := n0_; have BK1214 := n1_; have GW1214 := n2_; have GE1214 := n3_; clear n0_ n1_ n2_ n3_; clear hb hbox hg; have hcz16_0 : w15.cell? ⟨gb1214, 0, none⟩ = some (.int .i64 a0_0) := (blk_cell BK1214.out 0).trans rfl; have hcz16_1 : w15.cell? ⟨gb1214, 1, none⟩ = some (.int .i64 a0_1) := (blk_cell BK1214.out 1).trans rfl; have hcz16_2 : w15.cell? ⟨gb1214, 2, none⟩ = some (.int .i64 a0_2) := (blk_cell BK1214.out 2).trans rfl; have hcz16_3 : w15.cell? ⟨gb1214, 3, none⟩ = some (.int .i64 a0_3) := (blk_cell BK1214.out 3).trans rfl; have hcz16_4 : w15.cell? ⟨gb1214, 4, none⟩ = some (.int .i64 a0_4) := (blk_cell BK1214.out 4).trans rfl; have hcz16_5 : w15.cell? ⟨gb1214, 5, none⟩ = some (.string a0_5) := (blk_cell BK1214.out 5).trans rfl; have hfz16_0 := blk_frozen BK1214.out 0; have hfz16_1 := blk_frozen BK1214.out 1; have hfz16_2 := blk_frozen BK1214.out 2; have hfz16_3 := blk_frozen BK1214.out 3; have hfz16_4 := blk_frozen BK1214.out 4; have hfz16_5 := blk_frozen BK1214.out 5) | ((with_reducible refine gate_callee (f := 73) rfl ?_); refine goesL_ (some 10) rfl rfl Try.func73 (by kernel_rfl) rfl #[.string (⟨#[]⟩ : ByteArray), .int .i64 a0_4, .string a0_5] rfl (by (try simp only [List.map_toArray, List.map_cons, List.map_nil]); first | done | rfl | (simp only [List.length_drop, List.length_take]; rfl)) ?_; (with_reducible refine (impl_TextWrite.calls k (⟨#[]⟩ : ByteArray) a0_4 a0_5 t1215 t1216 _ A2.out).mono ?_); rintro e w17 ⟨rfl, hb⟩; refine ⟨_, rfl, ?_⟩; have n0_ := Aside0.mk (blk_below (g := gb1214) (o := .cells #[.int .i64 a0_0, .int .i64 a0_1, .int .i64 a0_2, .int .i64 a0_3, .int .i64 a0_4, .string a0_5] 63 (0, 0)) (by (with_reducible repeat (first | refine blk_drewN ?_ _ | refine blk_drew ?_ | refine blk_alloc ?_ _)); exact BK1214.out) hb); have n1_ := Aside0.mk (below_step (by repeat (first | (with_reducible first | exact HB.out | apply below_alloc | apply pw_below_drewN | apply below_drew1 | refine below_set ?_ GE1214.out) | exact HB.out)) hb); clear BK1214; clear HB; have BK1214 := n0_; have HB := n1_; clear n0_ n1_; (try clear hb); (try clear hb2); (try clear hk); (try clear hi); have hcz18_0 : w17.cell? ⟨gb1214, 0, none⟩ = some (.int .i64 a0_0) := (blk_cell BK1214.out 0).trans rfl; have hcz18_1 : w17.cell? ⟨gb1214, 1, none⟩ = some (.int .i64 a0_1) := (blk_cell BK1214.out 1).trans rfl; have hcz18_2 : w17.cell? ⟨gb1214, 2, none⟩ = some (.int .i64 a0_2) := (blk_cell BK1214.out 2).trans rfl; have hcz18_3 : w17.cell? ⟨gb1214, 3, none⟩ = some (.int .i64 a0_3) := (blk_cell BK1214.out 3).trans rfl; have hcz18_4 : w17.cell? ⟨gb1214, 4, none⟩ = some (.int .i64 a0_4) := (blk_cell BK1214.out 4).trans rfl; have hcz18_5 : w17.cell? ⟨gb1214, 5, none⟩ = some (.string a0_5) := (blk_cell BK1214.out 5).trans rfl; have hfz18_0 := blk_frozen BK1214.out 0; have hfz18_1 := blk_frozen BK1214.out 1; have hfz18_2 := blk_frozen BK1214.out 2; have hfz18_3 := blk_frozen BK1214.out 3; have hfz18_4 := blk_frozen BK1214.out 4; have hfz18_5 := blk_frozen BK1214.out 5) | ((with_reducible refine gate_callee (f := 68) rfl ?_); refine goesL_ (some 15) rfl rfl Try.func68 (by kernel_rfl) rfl #[.int .i64 a0_0] rfl (by (try simp only [List.map_toArray, List.map_cons, List.map_nil]); first | done | rfl | (simp only [List.length_drop, List.length_take]; rfl)) ?_; (with_reducible refine (impl_client.calls a0_0 true _ A3.out).mono ?_); rintro e w' ⟨rfl, ⟨nd, rfl⟩⟩; refine ⟨_, rfl, ?_⟩))
                go_ret
                exact ⟨by first | rfl | (simp [errW_none, errW_some] <;> rfl) | (simp [*, errW_none, errW_some] <;> rfl), by repeat (first | (with_reducible first | exact HB.out | apply below_alloc | apply pw_below_drewN | apply below_drew1 | refine below_set ?_ GE1214.out) | exact HB.out)⟩
            · rw [if_neg c9] at H
              have c9b0 : decide (0 ≤ a0_3) = false := decide_eq_false c9
              clear c9
              obtain rfl := Option.some.inj H
              go_enter Try.func72, Try.ntmps72
              go_wp2_with (first | ((with_reducible refine gate_dst (N := 1) rfl ?_); refine box_event ?hg (N := 1) ?hd (cs := #[.int .i64 a0_0, .int .i64 a0_1, .int .i64 a0_2, .int .i64 a0_3, .int .i64 a0_4, .string a0_5]) (t := 63) ?hr ?_; (case hd => rfl); (case hg => rfl); (case hr => first | (go_simp; done) | (go_simp; rfl)); intro gb1214 hg w19 hbox hb; have n0_ := Aside0.mk (below_step (by repeat (first | (with_reducible first | exact HB.out | apply below_alloc | apply pw_below_drewN | apply below_drew1) | exact HB.out)) hb); have n1_ := Aside0.mk (hbox); have n2_ := Aside0.mk ((by rw [hg]; exact (below_size (by repeat (first | (with_reducible first | exact HB.out | apply below_alloc | apply pw_below_drewN | apply below_drew1) | exact HB.out))) : w.heap.size ≤ gb1214)); have n3_ := Aside0.mk ((by rw [hg]; exact (below_size (by repeat (first | (with_reducible first | exact HB.out | apply below_alloc | apply pw_below_drewN | apply below_drew1) | exact HB.out))) : w.heap.size ≤ gb1214)); clear HB; have HB := n0_; have BK1214 := n1_; have GW1214 := n2_; have GE1214 := n3_; clear n0_ n1_ n2_ n3_; clear hb hbox hg; have hcz20_0 : w19.cell? ⟨gb1214, 0, none⟩ = some (.int .i64 a0_0) := (blk_cell BK1214.out 0).trans rfl; have hcz20_1 : w19.cell? ⟨gb1214, 1, none⟩ = some (.int .i64 a0_1) := (blk_cell BK1214.out 1).trans rfl; have hcz20_2 : w19.cell? ⟨gb1214, 2, none⟩ = some (.int .i64 a0_2) := (blk_cell BK1214.out 2).trans rfl; have hcz20_3 : w19.cell? ⟨gb1214, 3, none⟩ = some (.int .i64 a0_3) := (blk_cell BK1214.out 3).trans rfl; have hcz20_4 : w19.cell? ⟨gb1214, 4, none⟩ = some (.int .i64 a0_4) := (blk_cell BK1214.out 4).trans rfl; have hcz20_5 : w19.cell? ⟨gb1214, 5, none⟩ = some (.string a0_5) := (blk_cell BK1214.out 5).trans rfl; have hfz20_0 := blk_frozen BK1214.out 0; have hfz20_1 := blk_frozen BK1214.out 1; have hfz20_2 := blk_frozen BK1214.out 2; have hfz20_3 := blk_frozen BK1214.out 3; have hfz20_4 := blk_frozen BK1214.out 4; have hfz20_5 := blk_frozen BK1214.out 5) | ((with_reducible refine gate_callee (f := 73) rfl ?_); refine goesL_ (some 10) rfl rfl Try.func73 (by kernel_rfl) rfl #[.string (⟨#[]⟩ : ByteArray), .int .i64 a0_4, .string a0_5] rfl (by (try simp only [List.map_toArray, List.map_cons, List.map_nil]); first | done | rfl | (simp only [List.length_drop, List.length_take]; rfl)) ?_; (with_reducible refine (impl_TextWrite.calls k (⟨#[]⟩ : ByteArray) a0_4 a0_5 t1215 t1216 _ A2.out).mono ?_); rintro e w21 ⟨rfl, hb⟩; refine ⟨_, rfl, ?_⟩; have n0_ := Aside0.mk (blk_below (g := gb1214) (o := .cells #[.int .i64 a0_0, .int .i64 a0_1, .int .i64 a0_2, .int .i64 a0_3, .int .i64 a0_4, .string a0_5] 63 (0, 0)) (by (with_reducible repeat (first | refine blk_drewN ?_ _ | refine blk_drew ?_ | refine blk_alloc ?_ _)); exact BK1214.out) hb); have n1_ := Aside0.mk (below_step (by repeat (first | (with_reducible first | exact HB.out | apply below_alloc | apply pw_below_drewN | apply below_drew1 | refine below_set ?_ GE1214.out) | exact HB.out)) hb); clear BK1214; clear HB; have BK1214 := n0_; have HB := n1_; clear n0_ n1_; (try clear hb); (try clear hb2); (try clear hk); (try clear hi); have hcz22_0 : w21.cell? ⟨gb1214, 0, none⟩ = some (.int .i64 a0_0) := (blk_cell BK1214.out 0).trans rfl; have hcz22_1 : w21.cell? ⟨gb1214, 1, none⟩ = some (.int .i64 a0_1) := (blk_cell BK1214.out 1).trans rfl; have hcz22_2 : w21.cell? ⟨gb1214, 2, none⟩ = some (.int .i64 a0_2) := (blk_cell BK1214.out 2).trans rfl; have hcz22_3 : w21.cell? ⟨gb1214, 3, none⟩ = some (.int .i64 a0_3) := (blk_cell BK1214.out 3).trans rfl; have hcz22_4 : w21.cell? ⟨gb1214, 4, none⟩ = some (.int .i64 a0_4) := (blk_cell BK1214.out 4).trans rfl; have hcz22_5 : w21.cell? ⟨gb1214, 5, none⟩ = some (.string a0_5) := (blk_cell BK1214.out 5).trans rfl; have hfz22_0 := blk_frozen BK1214.out 0; have hfz22_1 := blk_frozen BK1214.out 1; have hfz22_2 := blk_frozen BK1214.out 2; have hfz22_3 := blk_frozen BK1214.out 3; have hfz22_4 := blk_frozen BK1214.out 4; have hfz22_5 := blk_frozen BK1214.out 5) | ((with_reducible refine gate_callee (f := 68) rfl ?_); refine goesL_ (some 15) rfl rfl Try.func68 (by kernel_rfl) rfl #[.int .i64 a0_0] rfl (by (try simp only [List.map_toArray, List.map_cons, List.map_nil]); first | done | rfl | (simp only [List.length_drop, List.length_take]; rfl)) ?_; (with_reducible refine (impl_client.calls a0_0 true _ A3.out).mono ?_); rintro e w' ⟨rfl, ⟨nd, rfl⟩⟩; refine ⟨_, rfl, ?_⟩))
              go_ret
              exact ⟨by first | rfl | (simp [errW_none, errW_some] <;> rfl) | (simp [*, errW_none, errW_some] <;> rfl), by repeat (first | (with_reducible first | exact HB.out | apply below_alloc | apply pw_below_drewN | apply below_drew1 | refine below_set ?_ GE1214.out) | exact HB.out)⟩
          · rw [if_neg c8] at H
            have c8b0 : decide (a0_2 ≤ 1000) = false := decide_eq_false c8
            clear c8
            obtain rfl := Option.some.inj H
            go_enter Try.func72, Try.ntmps72
            go_wp2_with (first | ((with_reducible refine gate_dst (N := 1) rfl ?_); refine box_event ?hg (N := 1) ?hd (cs := #[.int .i64 a0_0, .int .i64 a0_1, .int .i64 a0_2, .int .i64 a0_3, .int .i64 a0_4, .string a0_5]) (t := 63) ?hr ?_; (case hd => rfl); (case hg => rfl); (case hr => first | (go_simp; done) | (go_simp; rfl)); intro gb1214 hg w23 hbox hb; have n0_ := Aside0.mk (below_step (by repeat (first | (with_reducible first | exact HB.out | apply below_alloc | apply pw_below_drewN | apply below_drew1) | exact HB.out)) hb); have n1_ := Aside0.mk (hbox); have n2_ := Aside0.mk ((by rw [hg]; exact (below_size (by repeat (first | (with_reducible first | exact HB.out | apply below_alloc | apply pw_below_drewN | apply below_drew1) | exact HB.out))) : w.heap.size ≤ gb1214)); have n3_ := Aside0.mk ((by rw [hg]; exact (below_size (by repeat (first | (with_reducible first | exact HB.out | apply below_alloc | apply pw_below_drewN | apply below_drew1) | exact HB.out))) : w.heap.size ≤ gb1214)); clear HB; have HB := n0_; have BK1214 := n1_; have GW1214 := n2_; have GE1214 := n3_; clear n0_ n1_ n2_ n3_; clear hb hbox hg; have hcz24_0 : w23.cell? ⟨gb1214, 0, none⟩ = some (.int .i64 a0_0) := (blk_cell BK1214.out 0).trans rfl; have hcz24_1 : w23.cell? ⟨gb1214, 1, none⟩ = some (.int .i64 a0_1) := (blk_cell BK1214.out 1).trans rfl; have hcz24_2 : w23.cell? ⟨gb1214, 2, none⟩ = some (.int .i64 a0_2) := (blk_cell BK1214.out 2).trans rfl; have hcz24_3 : w23.cell? ⟨gb1214, 3, none⟩ = some (.int .i64 a0_3) := (blk_cell BK1214.out 3).trans rfl; have hcz24_4 : w23.cell? ⟨gb1214, 4, none⟩ = some (.int .i64 a0_4) := (blk_cell BK1214.out 4).trans rfl; have hcz24_5 : w23.cell? ⟨gb1214, 5, none⟩ = some (.string a0_5) := (blk_cell BK1214.out 5).trans rfl; have hfz24_0 := blk_frozen BK1214.out 0; have hfz24_1 := blk_frozen BK1214.out 1; have hfz24_2 := blk_frozen BK1214.out 2; have hfz24_3 := blk_frozen BK1214.out 3; have hfz24_4 := blk_frozen BK1214.out 4; have hfz24_5 := blk_frozen BK1214.out 5) | ((with_reducible refine gate_callee (f := 73) rfl ?_); refine goesL_ (some 10) rfl rfl Try.func73 (by kernel_rfl) rfl #[.string (⟨#[]⟩ : ByteArray), .int .i64 a0_4, .string a0_5] rfl (by (try simp only [List.map_toArray, List.map_cons, List.map_nil]); first | done | rfl | (simp only [List.length_drop, List.length_take]; rfl)) ?_; (with_reducible refine (impl_TextWrite.calls k (⟨#[]⟩ : ByteArray) a0_4 a0_5 t1215 t1216 _ A2.out).mono ?_); rintro e w25 ⟨rfl, hb⟩; refine ⟨_, rfl, ?_⟩; have n0_ := Aside0.mk (blk_below (g := gb1214) (o := .cells #[.int .i64 a0_0, .int .i64 a0_1, .int .i64 a0_2, .int .i64 a0_3, .int .i64 a0_4, .string a0_5] 63 (0, 0)) (by (with_reducible repeat (first | refine blk_drewN ?_ _ | refine blk_drew ?_ | refine blk_alloc ?_ _)); exact BK1214.out) hb); have n1_ := Aside0.mk (below_step (by repeat (first | (with_reducible first | exact HB.out | apply below_alloc | apply pw_below_drewN | apply below_drew1 | refine below_set ?_ GE1214.out) | exact HB.out)) hb); clear BK1214; clear HB; have BK1214 := n0_; have HB := n1_; clear n0_ n1_; (try clear hb); (try clear hb2); (try clear hk); (try clear hi); have hcz26_0 : w25.cell? ⟨gb1214, 0, none⟩ = some (.int .i64 a0_0) := (blk_cell BK1214.out 0).trans rfl; have hcz26_1 : w25.cell? ⟨gb1214, 1, none⟩ = some (.int .i64 a0_1) := (blk_cell BK1214.out 1).trans rfl; have hcz26_2 : w25.cell? ⟨gb1214, 2, none⟩ = some (.int .i64 a0_2) := (blk_cell BK1214.out 2).trans rfl; have hcz26_3 : w25.cell? ⟨gb1214, 3, none⟩ = some (.int .i64 a0_3) := (blk_cell BK1214.out 3).trans rfl; have hcz26_4 : w25.cell? ⟨gb1214, 4, none⟩ = some (.int .i64 a0_4) := (blk_cell BK1214.out 4).trans rfl; have hcz26_5 : w25.cell? ⟨gb1214, 5, none⟩ = some (.string a0_5) := (blk_cell BK1214.out 5).trans rfl; have hfz26_0 := blk_frozen BK1214.out 0; have hfz26_1 := blk_frozen BK1214.out 1; have hfz26_2 := blk_frozen BK1214.out 2; have hfz26_3 := blk_frozen BK1214.out 3; have hfz26_4 := blk_frozen BK1214.out 4; have hfz26_5 := blk_frozen BK1214.out 5) | ((with_reducible refine gate_callee (f := 68) rfl ?_); refine goesL_ (some 15) rfl rfl Try.func68 (by kernel_rfl) rfl #[.int .i64 a0_0] rfl (by (try simp only [List.map_toArray, List.map_cons, List.map_nil]); first | done | rfl | (simp only [List.length_drop, List.length_take]; rfl)) ?_; (with_reducible refine (impl_client.calls a0_0 true _ A3.out).mono ?_); rintro e w' ⟨rfl, ⟨nd, rfl⟩⟩; refine ⟨_, rfl, ?_⟩))
            go_ret
            exact ⟨by first | rfl | (simp [errW_none, errW_some] <;> rfl) | (simp [*, errW_none, errW_some] <;> rfl), by repeat (first | (with_reducible first | exact HB.out | apply below_alloc | apply pw_below_drewN | apply below_drew1 | refine below_set ?_ GE1214.out) | exact HB.out)⟩
        · rw [if_neg c7] at H
          have c7b0 : decide (1 ≤ a0_2) = false := decide_eq_false c7
          clear c7
          obtain rfl := Option.some.inj H
          go_enter Try.func72, Try.ntmps72
          go_wp2_with (first | ((with_reducible refine gate_dst (N := 1) rfl ?_); refine box_event ?hg (N := 1) ?hd (cs := #[.int .i64 a0_0, .int .i64 a0_1, .int .i64 a0_2, .int .i64 a0_3, .int .i64 a0_4, .string a0_5]) (t := 63) ?hr ?_; (case hd => rfl); (case hg => rfl); (case hr => first | (go_simp; done) | (go_simp; rfl)); intro gb1214 hg w27 hbox hb; have n0_ := Aside0.mk (below_step (by repeat (first | (with_reducible first | exact HB.out | apply below_alloc | apply pw_below_drewN | apply below_drew1) | exact HB.out)) hb); have n1_ := Aside0.mk (hbox); have n2_ := Aside0.mk ((by rw [hg]; exact (below_size (by repeat (first | (with_reducible first | exact HB.out | apply below_alloc | apply pw_below_drewN | apply below_drew1) | exact HB.out))) : w.heap.size ≤ gb1214)); have n3_ := Aside0.mk ((by rw [hg]; exact (below_size (by repeat (first | (with_reducible first | exact HB.out | apply below_alloc | apply pw_below_drewN | apply below_drew1) | exact HB.out))) : w.heap.size ≤ gb1214)); clear HB; have HB := n0_; have BK1214 := n1_; have GW1214 := n2_; have GE1214 := n3_; clear n0_ n1_ n2_ n3_; clear hb hbox hg; have hcz28_0 : w27.cell? ⟨gb1214, 0, none⟩ = some (.int .i64 a0_0) := (blk_cell BK1214.out 0).trans rfl; have hcz28_1 : w27.cell? ⟨gb1214, 1, none⟩ = some (.int .i64 a0_1) := (blk_cell BK1214.out 1).trans rfl; have hcz28_2 : w27.cell? ⟨gb1214, 2, none⟩ = some (.int .i64 a0_2) := (blk_cell BK1214.out 2).trans rfl; have hcz28_3 : w27.cell? ⟨gb1214, 3, none⟩ = some (.int .i64 a0_3) := (blk_cell BK1214.out 3).trans rfl; have hcz28_4 : w27.cell? ⟨gb1214, 4, none⟩ = some (.int .i64 a0_4) := (blk_cell BK1214.out 4).trans rfl; have hcz28_5 : w27.cell? ⟨gb1214, 5, none⟩ = some (.string a0_5) := (blk_cell BK1214.out 5).trans rfl; have hfz28_0 := blk_frozen BK1214.out 0; have hfz28_1 := blk_frozen BK1214.out 1; have hfz28_2 := blk_frozen BK1214.out 2; have hfz28_3 := blk_frozen BK1214.out 3; have hfz28_4 := blk_frozen BK1214.out 4; have hfz28_5 := blk_frozen BK1214.out 5) | ((with_reducible refine gate_callee (f := 73) rfl ?_); refine goesL_ (some 10) rfl rfl Try.func73 (by kernel_rfl) rfl #[.string (⟨#[]⟩ : ByteArray), .int .i64 a0_4, .string a0_5] rfl (by (try simp only [List.map_toArray, List.map_cons, List.map_nil]); first | done | rfl | (simp only [List.length_drop, List.length_take]; rfl)) ?_; (with_reducible refine (impl_TextWrite.calls k (⟨#[]⟩ : ByteArray) a0_4 a0_5 t1215 t1216 _ A2.out).mono ?_); rintro e w29 ⟨rfl, hb⟩; refine ⟨_, rfl, ?_⟩; have n0_ := Aside0.mk (blk_below (g := gb1214) (o := .cells #[.int .i64 a0_0, .int .i64 a0_1, .int .i64 a0_2, .int .i64 a0_3, .int .i64 a0_4, .string a0_5] 63 (0, 0)) (by (with_reducible repeat (first | refine blk_drewN ?_ _ | refine blk_drew ?_ | refine blk_alloc ?_ _)); exact BK1214.out) hb); have n1_ := Aside0.mk (below_step (by repeat (first | (with_reducible first | exact HB.out | apply below_alloc | apply pw_below_drewN | apply below_drew1 | refine below_set ?_ GE1214.out) | exact HB.out)) hb); clear BK1214; clear HB; have BK1214 := n0_; have HB := n1_; clear n0_ n1_; (try clear hb); (try clear hb2); (try clear hk); (try clear hi); have hcz30_0 : w29.cell? ⟨gb1214, 0, none⟩ = some (.int .i64 a0_0) := (blk_cell BK1214.out 0).trans rfl; have hcz30_1 : w29.cell? ⟨gb1214, 1, none⟩ = some (.int .i64 a0_1) := (blk_cell BK1214.out 1).trans rfl; have hcz30_2 : w29.cell? ⟨gb1214, 2, none⟩ = some (.int .i64 a0_2) := (blk_cell BK1214.out 2).trans rfl; have hcz30_3 : w29.cell? ⟨gb1214, 3, none⟩ = some (.int .i64 a0_3) := (blk_cell BK1214.out 3).trans rfl; have hcz30_4 : w29.cell? ⟨gb1214, 4, none⟩ = some (.int .i64 a0_4) := (blk_cell BK1214.out 4).trans rfl; have hcz30_5 : w29.cell? ⟨gb1214, 5, none⟩ = some (.string a0_5) := (blk_cell BK1214.out 5).trans rfl; have hfz30_0 := blk_frozen BK1214.out 0; have hfz30_1 := blk_frozen BK1214.out 1; have hfz30_2 := blk_frozen BK1214.out 2; have hfz30_3 := blk_frozen BK1214.out 3; have hfz30_4 := blk_frozen BK1214.out 4; have hfz30_5 := blk_frozen BK1214.out 5) | ((with_reducible refine gate_callee (f := 68) rfl ?_); refine goesL_ (some 15) rfl rfl Try.func68 (by kernel_rfl) rfl #[.int .i64 a0_0] rfl (by (try simp only [List.map_toArray, List.map_cons, List.map_nil]); first | done | rfl | (simp only [List.length_drop, List.length_take]; rfl)) ?_; (with_reducible refine (impl_client.calls a0_0 true _ A3.out).mono ?_); rintro e w' ⟨rfl, ⟨nd, rfl⟩⟩; refine ⟨_, rfl, ?_⟩))
          go_ret
          exact ⟨by first | rfl | (simp [errW_none, errW_some] <;> rfl) | (simp [*, errW_none, errW_some] <;> rfl), by repeat (first | (with_reducible first | exact HB.out | apply below_alloc | apply pw_below_drewN | apply below_drew1 | refine below_set ?_ GE1214.out) | exact HB.out)⟩
      · rw [if_neg c6] at H
        have c6b0 : decide (a0_1 ≤ 100) = false := decide_eq_false c6
        clear c6
        obtain rfl := Option.some.inj H
        go_enter Try.func72, Try.ntmps72
        go_wp2_with (first | ((with_reducible refine gate_dst (N := 1) rfl ?_); refine box_event ?hg (N := 1) ?hd (cs := #[.int .i64 a0_0, .int .i64 a0_1, .int .i64 a0_2, .int .i64 a0_3, .int .i64 a0_4, .string a0_5]) (t := 63) ?hr ?_; (case hd => rfl); (case hg => rfl); (case hr => first | (go_simp; done) | (go_simp; rfl)); intro gb1214 hg w31 hbox hb; have n0_ := Aside0.mk (below_step (by repeat (first | (with_reducible first | exact HB.out | apply below_alloc | apply pw_below_drewN | apply below_drew1) | exact HB.out)) hb); have n1_ := Aside0.mk (hbox); have n2_ := Aside0.mk ((by rw [hg]; exact (below_size (by repeat (first | (with_reducible first | exact HB.out | apply below_alloc | apply pw_below_drewN | apply below_drew1) | exact HB.out))) : w.heap.size ≤ gb1214)); have n3_ := Aside0.mk ((by rw [hg]; exact (below_size (by repeat (first | (with_reducible first | exact HB.out | apply below_alloc | apply pw_below_drewN | apply below_drew1) | exact HB.out))) : w.heap.size ≤ gb1214)); clear HB; have HB := n0_; have BK1214 := n1_; have GW1214 := n2_; have GE1214 := n3_; clear n0_ n1_ n2_ n3_; clear hb hbox hg; have hcz32_0 : w31.cell? ⟨gb1214, 0, none⟩ = some (.int .i64 a0_0) := (blk_cell BK1214.out 0).trans rfl; have hcz32_1 : w31.cell? ⟨gb1214, 1, none⟩ = some (.int .i64 a0_1) := (blk_cell BK1214.out 1).trans rfl; have hcz32_2 : w31.cell? ⟨gb1214, 2, none⟩ = some (.int .i64 a0_2) := (blk_cell BK1214.out 2).trans rfl; have hcz32_3 : w31.cell? ⟨gb1214, 3, none⟩ = some (.int .i64 a0_3) := (blk_cell BK1214.out 3).trans rfl; have hcz32_4 : w31.cell? ⟨gb1214, 4, none⟩ = some (.int .i64 a0_4) := (blk_cell BK1214.out 4).trans rfl; have hcz32_5 : w31.cell? ⟨gb1214, 5, none⟩ = some (.string a0_5) := (blk_cell BK1214.out 5).trans rfl; have hfz32_0 := blk_frozen BK1214.out 0; have hfz32_1 := blk_frozen BK1214.out 1; have hfz32_2 := blk_frozen BK1214.out 2; have hfz32_3 := blk_frozen BK1214.out 3; have hfz32_4 := blk_frozen BK1214.out 4; have hfz32_5 := blk_frozen BK1214.out 5) | ((with_reducible refine gate_callee (f := 73) rfl ?_); refine goesL_ (some 10) rfl rfl Try.func73 (by kernel_rfl) rfl #[.string (⟨#[]⟩ : ByteArray), .int .i64 a0_4, .string a0_5] rfl (by (try simp only [List.map_toArray, List.map_cons, List.map_nil]); first | done | rfl | (simp only [List.length_drop, List.length_take]; rfl)) ?_; (with_reducible refine (impl_TextWrite.calls k (⟨#[]⟩ : ByteArray) a0_4 a0_5 t1215 t1216 _ A2.out).mono ?_); rintro e w33 ⟨rfl, hb⟩; refine ⟨_, rfl, ?_⟩; have n0_ := Aside0.mk (blk_below (g := gb1214) (o := .cells #[.int .i64 a0_0, .int .i64 a0_1, .int .i64 a0_2, .int .i64 a0_3, .int .i64 a0_4, .string a0_5] 63 (0, 0)) (by (with_reducible repeat (first | refine blk_drewN ?_ _ | refine blk_drew ?_ | refine blk_alloc ?_ _)); exact BK1214.out) hb); have n1_ := Aside0.mk (below_step (by repeat (first | (with_reducible first | exact HB.out | apply below_alloc | apply pw_below_drewN | apply below_drew1 | refine below_set ?_ GE1214.out) | exact HB.out)) hb); clear BK1214; clear HB; have BK1214 := n0_; have HB := n1_; clear n0_ n1_; (try clear hb); (try clear hb2); (try clear hk); (try clear hi); have hcz34_0 : w33.cell? ⟨gb1214, 0, none⟩ = some (.int .i64 a0_0) := (blk_cell BK1214.out 0).trans rfl; have hcz34_1 : w33.cell? ⟨gb1214, 1, none⟩ = some (.int .i64 a0_1) := (blk_cell BK1214.out 1).trans rfl; have hcz34_2 : w33.cell? ⟨gb1214, 2, none⟩ = some (.int .i64 a0_2) := (blk_cell BK1214.out 2).trans rfl; have hcz34_3 : w33.cell? ⟨gb1214, 3, none⟩ = some (.int .i64 a0_3) := (blk_cell BK1214.out 3).trans rfl; have hcz34_4 : w33.cell? ⟨gb1214, 4, none⟩ = some (.int .i64 a0_4) := (blk_cell BK1214.out 4).trans rfl; have hcz34_5 : w33.cell? ⟨gb1214, 5, none⟩ = some (.string a0_5) := (blk_cell BK1214.out 5).trans rfl; have hfz34_0 := blk_frozen BK1214.out 0; have hfz34_1 := blk_frozen BK1214.out 1; have hfz34_2 := blk_frozen BK1214.out 2; have hfz34_3 := blk_frozen BK1214.out 3; have hfz34_4 := blk_frozen BK1214.out 4; have hfz34_5 := blk_frozen BK1214.out 5) | ((with_reducible refine gate_callee (f := 68) rfl ?_); refine goesL_ (some 15) rfl rfl Try.func68 (by kernel_rfl) rfl #[.int .i64 a0_0] rfl (by (try simp only [List.map_toArray, List.map_cons, List.map_nil]); first | done | rfl | (simp only [List.length_drop, List.length_take]; rfl)) ?_; (with_reducible refine (impl_client.calls a0_0 true _ A3.out).mono ?_); rintro e w' ⟨rfl, ⟨nd, rfl⟩⟩; refine ⟨_, rfl, ?_⟩))
        go_ret
        exact ⟨by first | rfl | (simp [errW_none, errW_some] <;> rfl) | (simp [*, errW_none, errW_some] <;> rfl), by repeat (first | (with_reducible first | exact HB.out | apply below_alloc | apply pw_below_drewN | apply below_drew1 | refine below_set ?_ GE1214.out) | exact HB.out)⟩
    · rw [if_neg c5] at H
      have c5b0 : decide (0 ≤ a0_1) = false := decide_eq_false c5
      clear c5
      obtain rfl := Option.some.inj H
      go_enter Try.func72, Try.ntmps72
      go_wp2_with (first | ((with_reducible refine gate_dst (N := 1) rfl ?_); refine box_event ?hg (N := 1) ?hd (cs := #[.int .i64 a0_0, .int .i64 a0_1, .int .i64 a0_2, .int .i64 a0_3, .int .i64 a0_4, .string a0_5]) (t := 63) ?hr ?_; (case hd => rfl); (case hg => rfl); (case hr => first | (go_simp; done) | (go_simp; rfl)); intro gb1214 hg w35 hbox hb; have n0_ := Aside0.mk (below_step (by repeat (first | (with_reducible first | exact HB.out | apply below_alloc | apply pw_below_drewN | apply below_drew1) | exact HB.out)) hb); have n1_ := Aside0.mk (hbox); have n2_ := Aside0.mk ((by rw [hg]; exact (below_size (by repeat (first | (with_reducible first | exact HB.out | apply below_alloc | apply pw_below_drewN | apply below_drew1) | exact HB.out))) : w.heap.size ≤ gb1214)); have n3_ := Aside0.mk ((by rw [hg]; exact (below_size (by repeat (first | (with_reducible first | exact HB.out | apply below_alloc | apply pw_below_drewN | apply below_drew1) | exact HB.out))) : w.heap.size ≤ gb1214)); clear HB; have HB := n0_; have BK1214 := n1_; have GW1214 := n2_; have GE1214 := n3_; clear n0_ n1_ n2_ n3_; clear hb hbox hg; have hcz36_0 : w35.cell? ⟨gb1214, 0, none⟩ = some (.int .i64 a0_0) := (blk_cell BK1214.out 0).trans rfl; have hcz36_1 : w35.cell? ⟨gb1214, 1, none⟩ = some (.int .i64 a0_1) := (blk_cell BK1214.out 1).trans rfl; have hcz36_2 : w35.cell? ⟨gb1214, 2, none⟩ = some (.int .i64 a0_2) := (blk_cell BK1214.out 2).trans rfl; have hcz36_3 : w35.cell? ⟨gb1214, 3, none⟩ = some (.int .i64 a0_3) := (blk_cell BK1214.out 3).trans rfl; have hcz36_4 : w35.cell? ⟨gb1214, 4, none⟩ = some (.int .i64 a0_4) := (blk_cell BK1214.out 4).trans rfl; have hcz36_5 : w35.cell? ⟨gb1214, 5, none⟩ = some (.string a0_5) := (blk_cell BK1214.out 5).trans rfl; have hfz36_0 := blk_frozen BK1214.out 0; have hfz36_1 := blk_frozen BK1214.out 1; have hfz36_2 := blk_frozen BK1214.out 2; have hfz36_3 := blk_frozen BK1214.out 3; have hfz36_4 := blk_frozen BK1214.out 4; have hfz36_5 := blk_frozen BK1214.out 5) | ((with_reducible refine gate_callee (f := 73) rfl ?_); refine goesL_ (some 10) rfl rfl Try.func73 (by kernel_rfl) rfl #[.string (⟨#[]⟩ : ByteArray), .int .i64 a0_4, .string a0_5] rfl (by (try simp only [List.map_toArray, List.map_cons, List.map_nil]); first | done | rfl | (simp only [List.length_drop, List.length_take]; rfl)) ?_; (with_reducible refine (impl_TextWrite.calls k (⟨#[]⟩ : ByteArray) a0_4 a0_5 t1215 t1216 _ A2.out).mono ?_); rintro e w37 ⟨rfl, hb⟩; refine ⟨_, rfl, ?_⟩; have n0_ := Aside0.mk (blk_below (g := gb1214) (o := .cells #[.int .i64 a0_0, .int .i64 a0_1, .int .i64 a0_2, .int .i64 a0_3, .int .i64 a0_4, .string a0_5] 63 (0, 0)) (by (with_reducible repeat (first | refine blk_drewN ?_ _ | refine blk_drew ?_ | refine blk_alloc ?_ _)); exact BK1214.out) hb); have n1_ := Aside0.mk (below_step (by repeat (first | (with_reducible first | exact HB.out | apply below_alloc | apply pw_below_drewN | apply below_drew1 | refine below_set ?_ GE1214.out) | exact HB.out)) hb); clear BK1214; clear HB; have BK1214 := n0_; have HB := n1_; clear n0_ n1_; (try clear hb); (try clear hb2); (try clear hk); (try clear hi); have hcz38_0 : w37.cell? ⟨gb1214, 0, none⟩ = some (.int .i64 a0_0) := (blk_cell BK1214.out 0).trans rfl; have hcz38_1 : w37.cell? ⟨gb1214, 1, none⟩ = some (.int .i64 a0_1) := (blk_cell BK1214.out 1).trans rfl; have hcz38_2 : w37.cell? ⟨gb1214, 2, none⟩ = some (.int .i64 a0_2) := (blk_cell BK1214.out 2).trans rfl; have hcz38_3 : w37.cell? ⟨gb1214, 3, none⟩ = some (.int .i64 a0_3) := (blk_cell BK1214.out 3).trans rfl; have hcz38_4 : w37.cell? ⟨gb1214, 4, none⟩ = some (.int .i64 a0_4) := (blk_cell BK1214.out 4).trans rfl; have hcz38_5 : w37.cell? ⟨gb1214, 5, none⟩ = some (.string a0_5) := (blk_cell BK1214.out 5).trans rfl; have hfz38_0 := blk_frozen BK1214.out 0; have hfz38_1 := blk_frozen BK1214.out 1; have hfz38_2 := blk_frozen BK1214.out 2; have hfz38_3 := blk_frozen BK1214.out 3; have hfz38_4 := blk_frozen BK1214.out 4; have hfz38_5 := blk_frozen BK1214.out 5) | ((with_reducible refine gate_callee (f := 68) rfl ?_); refine goesL_ (some 15) rfl rfl Try.func68 (by kernel_rfl) rfl #[.int .i64 a0_0] rfl (by (try simp only [List.map_toArray, List.map_cons, List.map_nil]); first | done | rfl | (simp only [List.length_drop, List.length_take]; rfl)) ?_; (with_reducible refine (impl_client.calls a0_0 true _ A3.out).mono ?_); rintro e w' ⟨rfl, ⟨nd, rfl⟩⟩; refine ⟨_, rfl, ?_⟩))
      go_ret
      exact ⟨by first | rfl | (simp [errW_none, errW_some] <;> rfl) | (simp [*, errW_none, errW_some] <;> rfl), by repeat (first | (with_reducible first | exact HB.out | apply below_alloc | apply pw_below_drewN | apply below_drew1 | refine below_set ?_ GE1214.out) | exact HB.out)⟩
  · replace c4 := Bool.eq_false_iff.mpr c4
    subst c4
    have H1 : (some false) = some r := by rw [if_neg (show ¬ (false = true) by decide)] at H; exact H
    clear H
    have H := H1
    clear H1
    obtain rfl := Option.some.inj H
    go_enter Try.func72, Try.ntmps72
    go_wp2_with (first | ((with_reducible refine gate_dst (N := 1) rfl ?_); refine box_event ?hg (N := 1) ?hd (cs := #[.int .i64 a0_0, .int .i64 a0_1, .int .i64 a0_2, .int .i64 a0_3, .int .i64 a0_4, .string a0_5]) (t := 63) ?hr ?_; (case hd => rfl); (case hg => rfl); (case hr => first | (go_simp; done) | (go_simp; rfl)); intro gb1214 hg w39 hbox hb; have n0_ := Aside0.mk (below_step (by repeat (first | (with_reducible first | exact HB.out | apply below_alloc | apply pw_below_drewN | apply below_drew1) | exact HB.out)) hb); have n1_ := Aside0.mk (hbox); have n2_ := Aside0.mk ((by rw [hg]; exact (below_size (by repeat (first | (with_reducible first | exact HB.out | apply below_alloc | apply pw_below_drewN | apply below_drew1) | exact HB.out))) : w.heap.size ≤ gb1214)); have n3_ := Aside0.mk ((by rw [hg]; exact (below_size (by repeat (first | (with_reducible first | exact HB.out | apply below_alloc | apply pw_below_drewN | apply below_drew1) | exact HB.out))) : w.heap.size ≤ gb1214)); clear HB; have HB := n0_; have BK1214 := n1_; have GW1214 := n2_; have GE1214 := n3_; clear n0_ n1_ n2_ n3_; clear hb hbox hg; have hcz40_0 : w39.cell? ⟨gb1214, 0, none⟩ = some (.int .i64 a0_0) := (blk_cell BK1214.out 0).trans rfl; have hcz40_1 : w39.cell? ⟨gb1214, 1, none⟩ = some (.int .i64 a0_1) := (blk_cell BK1214.out 1).trans rfl; have hcz40_2 : w39.cell? ⟨gb1214, 2, none⟩ = some (.int .i64 a0_2) := (blk_cell BK1214.out 2).trans rfl; have hcz40_3 : w39.cell? ⟨gb1214, 3, none⟩ = some (.int .i64 a0_3) := (blk_cell BK1214.out 3).trans rfl; have hcz40_4 : w39.cell? ⟨gb1214, 4, none⟩ = some (.int .i64 a0_4) := (blk_cell BK1214.out 4).trans rfl; have hcz40_5 : w39.cell? ⟨gb1214, 5, none⟩ = some (.string a0_5) := (blk_cell BK1214.out 5).trans rfl; have hfz40_0 := blk_frozen BK1214.out 0; have hfz40_1 := blk_frozen BK1214.out 1; have hfz40_2 := blk_frozen BK1214.out 2; have hfz40_3 := blk_frozen BK1214.out 3; have hfz40_4 := blk_frozen BK1214.out 4; have hfz40_5 := blk_frozen BK1214.out 5) | ((with_reducible refine gate_callee (f := 73) rfl ?_); refine goesL_ (some 10) rfl rfl Try.func73 (by kernel_rfl) rfl #[.string (⟨#[]⟩ : ByteArray), .int .i64 a0_4, .string a0_5] rfl (by (try simp only [List.map_toArray, List.map_cons, List.map_nil]); first | done | rfl | (simp only [List.length_drop, List.length_take]; rfl)) ?_; (with_reducible refine (impl_TextWrite.calls k (⟨#[]⟩ : ByteArray) a0_4 a0_5 t1215 t1216 _ A2.out).mono ?_); rintro e w41 ⟨rfl, hb⟩; refine ⟨_, rfl, ?_⟩; have n0_ := Aside0.mk (blk_below (g := gb1214) (o := .cells #[.int .i64 a0_0, .int .i64 a0_1, .int .i64 a0_2, .int .i64 a0_3, .int .i64 a0_4, .string a0_5] 63 (0, 0)) (by (with_reducible repeat (first | refine blk_drewN ?_ _ | refine blk_drew ?_ | refine blk_alloc ?_ _)); exact BK1214.out) hb); have n1_ := Aside0.mk (below_step (by repeat (first | (with_reducible first | exact HB.out | apply below_alloc | apply pw_below_drewN | apply below_drew1 | refine below_set ?_ GE1214.out) | exact HB.out)) hb); clear BK1214; clear HB; have BK1214 := n0_; have HB := n1_; clear n0_ n1_; (try clear hb); (try clear hb2); (try clear hk); (try clear hi); have hcz42_0 : w41.cell? ⟨gb1214, 0, none⟩ = some (.int .i64 a0_0) := (blk_cell BK1214.out 0).trans rfl; have hcz42_1 : w41.cell? ⟨gb1214, 1, none⟩ = some (.int .i64 a0_1) := (blk_cell BK1214.out 1).trans rfl; have hcz42_2 : w41.cell? ⟨gb1214, 2, none⟩ = some (.int .i64 a0_2) := (blk_cell BK1214.out 2).trans rfl; have hcz42_3 : w41.cell? ⟨gb1214, 3, none⟩ = some (.int .i64 a0_3) := (blk_cell BK1214.out 3).trans rfl; have hcz42_4 : w41.cell? ⟨gb1214, 4, none⟩ = some (.int .i64 a0_4) := (blk_cell BK1214.out 4).trans rfl; have hcz42_5 : w41.cell? ⟨gb1214, 5, none⟩ = some (.string a0_5) := (blk_cell BK1214.out 5).trans rfl; have hfz42_0 := blk_frozen BK1214.out 0; have hfz42_1 := blk_frozen BK1214.out 1; have hfz42_2 := blk_frozen BK1214.out 2; have hfz42_3 := blk_frozen BK1214.out 3; have hfz42_4 := blk_frozen BK1214.out 4; have hfz42_5 := blk_frozen BK1214.out 5) | ((with_reducible refine gate_callee (f := 68) rfl ?_); refine goesL_ (some 15) rfl rfl Try.func68 (by kernel_rfl) rfl #[.int .i64 a0_0] rfl (by (try simp only [List.map_toArray, List.map_cons, List.map_nil]); first | done | rfl | (simp only [List.length_drop, List.length_take]; rfl)) ?_; (with_reducible refine (impl_client.calls a0_0 false _ A3.out).mono ?_); rintro e w' ⟨rfl, ⟨nd, rfl⟩⟩; refine ⟨_, rfl, ?_⟩))
    go_ret
    exact ⟨by first | rfl | (simp [errW_none, errW_some] <;> rfl) | (simp [*, errW_none, errW_some] <;> rfl), by repeat (first | (with_reducible first | exact HB.out | apply below_alloc | apply pw_below_drewN | apply below_drew1 | refine below_set ?_ GE1214.out) | exact HB.out)⟩
end Go.Proofs.Ytolmblfffnnabaa.P
namespace Go.Proofs.Ytolmblfffnnabaa.P
open Go.RowKit Go.Proofs.YtolmblfffnnabaaW.PrintWords Go.Proofs.YtolmblfffnnabaaW.PrintLast Go.Proofs.YtolmblfffnnabaaW.PrintMore
attribute [local go_sem] max2_int min2_int max_two min_two max_three min_three max_four min_four   
set_option linter.unusedVariables false
set_option linter.unusedSimpArgs false
end Go.Proofs.Ytolmblfffnnabaa.P
namespace Go.Proofs.Ytolmblfffnnabaa.P
open Go.RowKit Go.Proofs.YtolmblfffnnabaaW.PrintWords Go.Proofs.YtolmblfffnnabaaW.PrintLast Go.Proofs.YtolmblfffnnabaaW.PrintMore
set_option linter.unusedVariables false
set_option linter.unusedSimpArgs false
end Go.Proofs.Ytolmblfffnnabaa.P
namespace Go.Proofs.Ytolmblfffnnabaa.P
open Go.RowKit Go.Proofs.YtolmblfffnnabaaW.PrintWords Go.Proofs.YtolmblfffnnabaaW.PrintLast Go.Proofs.YtolmblfffnnabaaW.PrintMore
attribute [local go_sem] max2_int min2_int max_two min_two max_three min_three max_four min_four   
set_option linter.unusedVariables false
set_option linter.unusedSimpArgs false
end Go.Proofs.Ytolmblfffnnabaa.P
namespace Go.Proofs.Ytolmblfffnnabaa.P
open Go.RowKit Go.Proofs.YtolmblfffnnabaaW.PrintWords Go.Proofs.YtolmblfffnnabaaW.PrintLast Go.Proofs.YtolmblfffnnabaaW.PrintMore
set_option linter.unusedVariables false
set_option linter.unusedSimpArgs false
end Go.Proofs.Ytolmblfffnnabaa.P
namespace Go.Proofs.Ytolmblfffnnabaa.P
open Go.RowKit Go.Proofs.YtolmblfffnnabaaW.PrintWords Go.Proofs.YtolmblfffnnabaaW.PrintLast Go.Proofs.YtolmblfffnnabaaW.PrintMore
attribute [local go_sem] max2_int min2_int max_two min_two max_three min_three max_four min_four   
set_option linter.unusedVariables false
set_option linter.unusedSimpArgs false
def spec_l5Copy.f (l0_0 : List ByteArray) (l0_1 : List ByteArray) (l0_2 : List Int) (l0_3 : List Int) (l0_4 : List Int) : Option (List ByteArray × List ByteArray × List Int × List Int × List Int) := (some (([] : List ByteArray) : List ByteArray)).bind fun y542 => (if y542.length + l0_0.length < 8796093022208 then ((some (([] : List ByteArray) : List ByteArray)).bind fun y548 => (if y548.length + l0_1.length < 8796093022208 then ((some (([] : List Int) : List Int)).bind fun y554 => (if y554.length + l0_2.length < 17592186044416 then ((some (([] : List Int) : List Int)).bind fun y560 => (if y560.length + l0_3.length < 17592186044416 then ((some (([] : List Int) : List Int)).bind fun y566 => (if y566.length + l0_4.length < 17592186044416 then (some ((y542 ++ l0_0), (y548 ++ l0_1), (y554 ++ l0_2), (y560 ++ l0_3), (y566 ++ l0_4))) else (none))) else (none))) else (none))) else (none))) else (none))
def spec_l5Copy.T1 : Bool × List (List Nat × List Nat) := (true, [([], []), ([], []), ([1], [1]), ([0, 2], [0, 2]), ([], []), ([], []), ([5], [5]), ([4, 6, 3], [4, 6]), ([], []), ([], []), ([9], [9]), ([8, 10, 7], [8, 10]), ([], []), ([], []), ([13], [13]), ([12, 14, 11], [12, 14]), ([], []), ([], []), ([17], [17]), ([16, 18, 15], [16, 18]), ([3, 7, 11, 15, 19], [3, 7, 11, 15, 19]), ([20, 19, 0, 1, 2, 3, 4, 5, 6, 7, 8, 9, 10, 11, 12, 13, 14, 15, 16, 17, 18, 19, 20], [20])])
def spec_l5Copy.B1 : List Nat := [0, 0, 2, 7, 0, 0, 32, 127, 0, 0, 512, 2047, 0, 0, 8192, 32767, 0, 0, 131072, 524287, 1048575, 2097151]
theorem spec_l5Copy.tab1 : rtab .any (opsOf Try.f62 1) = spec_l5Copy.T1 := by kernel_rfl
theorem spec_l5Copy.bits1 : waitsOk spec_l5Copy.T1.2 spec_l5Copy.B1 = true := by kernel_rfl
end Go.Proofs.Ytolmblfffnnabaa.P

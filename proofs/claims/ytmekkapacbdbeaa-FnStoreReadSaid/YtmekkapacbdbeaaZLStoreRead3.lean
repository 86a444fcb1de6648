/- Part 3 of the proof of FnStoreRead: words, contracts of callees, plain lemmas. -/
import Derived.Test.YtmekkapacbdbeaaZLStoreRead2
namespace Go.Proofs.Ytmekkapacbdbeaa.P
open Go.RowKit Go.Proofs.YtmekkapacbdbeaaW.PrintWords Go.Proofs.YtmekkapacbdbeaaW.PrintLast Go.Proofs.YtmekkapacbdbeaaW.PrintMore
attribute [local go_sem] max2_int min2_int max_two min_two max_three min_three max_four min_four   
set_option linter.unusedVariables false
set_option linter.unusedSimpArgs false
mutual
def impl_StoreOk.j0 : Nat → Bool → List ByteArray → List ByteArray → List Int → List Int → List Int → Option (Bool)
 | 0, _, _, _, _, _, _ => none
 | k + 1, x32, x594000, x594001, x594002, x594003, x594004 => if x32 = true then (some false) else (impl_StoreOk.l0 k 0 x594000 x594001 x594002 x594003 x594004)
def impl_StoreOk.l0 : Nat → Int → List ByteArray → List ByteArray → List Int → List Int → List Int → Option (Bool)
 | 0, _, _, _, _, _, _ => none
 | k + 1, x33, x594000, x594001, x594002, x594003, x594004 => if x33 < 3 then (if 0 ≤ x33 then (if x33 < (x594000.length : Int) then ((impl_TextOk.f k (rdOf ByteArray.empty x594000 x33)).bind fun t595 => (if t595 = true then (if x33 < (x594001.length : Int) then ((impl_TextOk.f k (rdOf ByteArray.empty x594001 x33)).bind fun t597 => (if t597 = true then (impl_StoreOk.l0 k (wrap64 (x33 + 1)) x594000 x594001 x594002 x594003 x594004) else (some false))) else (none)) else (some false))) else (none)) else (none)) else (impl_StoreOk.l1 k 0 x594000 x594001 x594002 x594003 x594004)
def impl_StoreOk.l1 : Nat → Int → List ByteArray → List ByteArray → List Int → List Int → List Int → Option (Bool)
 | 0, _, _, _, _, _, _ => none
 | k + 1, x53, x594000, x594001, x594002, x594003, x594004 => if x53 < 3 then (if 0 ≤ x53 then (if x53 < (x594003.length : Int) then (if (rd x594003 x53) < 0 then (some false) else (if x53 < (x594002.length : Int) then (if (rd x594003 x53) > (rd x594002 x53) then (some false) else (if (rd x594002 x53) > 1000 then (some false) else (if x53 < (x594004.length : Int) then (if (rd x594004 x53) < 0 then (some false) else (if (rd x594004 x53) > 100 then (some false) else (impl_StoreOk.l1 k (wrap64 (x53 + 1)) x594000 x594001 x594002 x594003 x594004))) else (none)))) else (none))) else (none)) else (none)) else (some true)
end
def impl_StoreOk.f (k : Nat) (l0_0 : List ByteArray) (l0_1 : List ByteArray) (l0_2 : List Int) (l0_3 : List Int) (l0_4 : List Int) : Option (Bool) := if (l0_0.length : Int) = 3 then (if (l0_1.length : Int) = 3 then (if (l0_2.length : Int) = 3 then (if (l0_3.length : Int) = 3 then (impl_StoreOk.j0 k ((l0_4.length : Int) != 3) l0_0 l0_1 l0_2 l0_3 l0_4) else (impl_StoreOk.j0 k true l0_0 l0_1 l0_2 l0_3 l0_4)) else (impl_StoreOk.j0 k true l0_0 l0_1 l0_2 l0_3 l0_4)) else (impl_StoreOk.j0 k true l0_0 l0_1 l0_2 l0_3 l0_4)) else (impl_StoreOk.j0 k true l0_0 l0_1 l0_2 l0_3 l0_4)
set_option maxHeartbeats 8000000 in
set_option maxRecDepth 100000 in
theorem impl_StoreOk.calls (k : Nat) (A0_0 : Option Addr) (c0_0 : Nat) (l0_0 : List ByteArray) (A0_1 : Option Addr) (c0_1 : Nat) (l0_1 : List ByteArray) (A0_2 : Option Addr) (c0_2 : Nat) (l0_2 : List Int) (A0_3 : Option Addr) (c0_3 : Nat) (l0_3 : List Int) (A0_4 : Option Addr) (c0_4 : Nat) (l0_4 : List Int) (r : Bool) (w : World) (hr0_0 : Kd.C Kd.string w A0_0 l0_0.length l0_0) (hc0_0 : l0_0.length ≤ c0_0) (hr0_1 : Kd.C Kd.string w A0_1 l0_1.length l0_1) (hc0_1 : l0_1.length ≤ c0_1) (hr0_2 : Kd.C (Kd.int .i64) w A0_2 l0_2.length l0_2) (hc0_2 : l0_2.length ≤ c0_2) (hr0_3 : Kd.C (Kd.int .i64) w A0_3 l0_3.length l0_3) (hc0_3 : l0_3.length ≤ c0_3) (hr0_4 : Kd.C (Kd.int .i64) w A0_4 l0_4.length l0_4) (hc0_4 : l0_4.length ≤ c0_4) (h : impl_StoreOk.f k l0_0 l0_1 l0_2 l0_3 l0_4 = some r) :
  Calls Try.prog 23 #[.agg #[.slice A0_0 l0_0.length c0_0, .slice A0_1 l0_1.length c0_1, .slice A0_2 l0_2.length c0_2, .slice A0_3 l0_3.length c0_3, .slice A0_4 l0_4.length c0_4]] w fun e w' => e = .returned (.bool r) ∧ Below w.heap.size w w' := by
 have hu26 := Try.underlying26
 have HR0_0 := Ak hr0_0
 have HC0_0 := Ak hc0_0
 clear hr0_0 hc0_0
 have HR0_1 := Ak hr0_1
 have HC0_1 := Ak hc0_1
 clear hr0_1 hc0_1
 have HR0_2 := Ak hr0_2
 have HC0_2 := Ak hc0_2
 clear hr0_2 hc0_2
 have HR0_3 := Ak hr0_3
 have HC0_3 := Ak hc0_3
 clear hr0_3 hc0_3
 have HR0_4 := Ak hr0_4
 have HC0_4 := Ak hc0_4
 clear hr0_4 hc0_4
 have HB := Ak (Below.refl w.heap.size w)
 have H : (if (l0_0.length : Int) = 3 then (if (l0_1.length : Int) = 3 then (if (l0_2.length : Int) = 3 then (if (l0_3.length : Int) = 3 then (impl_StoreOk.j0 k ((l0_4.length : Int) != 3) l0_0 l0_1 l0_2 l0_3 l0_4) else (impl_StoreOk.j0 k true l0_0 l0_1 l0_2 l0_3 l0_4)) else (impl_StoreOk.j0 k true l0_0 l0_1 l0_2 l0_3 l0_4)) else (impl_StoreOk.j0 k true l0_0 l0_1 l0_2 l0_3 l0_4)) else (impl_StoreOk.j0 k true l0_0 l0_1 l0_2 l0_3 l0_4)) = some r := h
 clear h
 have HC2 := Ak H
 clear H
 go_enter Try.func23, Try.ntmps23
 go_upto_region 1 with (first | ((with_reducible refine gate_dst (N := 1) rfl ?_); (try (refine gate_guard (by rfl) ?_; dsimp only)); refine box_event ?hg (N := 1) ?hd (cs := #[.slice A0_0 l0_0.length c0_0, .slice A0_1 l0_1.length c0_1, .slice A0_2 l0_2.length c0_2, .slice A0_3 l0_3.length c0_3, .slice A0_4 l0_4.length c0_4]) (t := 26) ?hr ?_; (case hd => rfl); (case hg => rfl); (case hr => first | (go_simp; done) | (go_simp; rfl)); intro gb593 hg w3 hbox hb; have n0_ := Ak (below_step (by repeat (first | (with_reducible first | exact HB.out | apply below_alloc | apply pw_below_drewN | apply below_drew1) | exact HB.out)) hb); have n1_ := Ak (hbox); have n2_ := Ak ((by rw [hg]; exact (below_size (by repeat (first | (with_reducible first | exact HB.out | apply below_alloc | apply pw_below_drewN | apply below_drew1) | exact HB.out))) : w.heap.size ≤ gb593)); have n3_ := Ak ((by rw [hg]; exact (below_size (by repeat (first | (with_reducible first | exact HB.out | apply below_alloc | apply pw_below_drewN | apply below_drew1) | exact HB.out))) : w.heap.size ≤ gb593)); clear HB; have HB := n0_; have BK593 := n1_; have GW593 := n2_; have GE593 := n3_; clear n0_ n1_ n2_ n3_; clear hb hbox hg))
 repeat (go_quiet (first | ((with_reducible refine gate_dst (N := 1) rfl ?_); (try (refine gate_guard (by rfl) ?_; dsimp only)); refine box_event ?hg (N := 1) ?hd (cs := #[.slice A0_0 l0_0.length c0_0, .slice A0_1 l0_1.length c0_1, .slice A0_2 l0_2.length c0_2, .slice A0_3 l0_3.length c0_3, .slice A0_4 l0_4.length c0_4]) (t := 26) ?hr ?_; (case hd => rfl); (case hg => rfl); (case hr => first | (go_simp; done) | (go_simp; rfl)); intro gb593 hg w3 hbox hb; have n0_ := Ak (below_step (by repeat (first | (with_reducible first | exact HB.out | apply below_alloc | apply pw_below_drewN | apply below_drew1) | exact HB.out)) hb); have n1_ := Ak (hbox); have n2_ := Ak ((by rw [hg]; exact (below_size (by repeat (first | (with_reducible first | exact HB.out | apply below_alloc | apply pw_below_drewN | apply below_drew1) | exact HB.out))) : w.heap.size ≤ gb593)); have n3_ := Ak ((by rw [hg]; exact (below_size (by repeat (first | (with_reducible first | exact HB.out | apply below_alloc | apply pw_below_drewN | apply below_drew1) | exact HB.out))) : w.heap.size ≤ gb593)); clear HB; have HB := n0_; have BK593 := n1_; have GW593 := n2_; have GE593 := n3_; clear n0_ n1_ n2_ n3_; clear hb hbox hg)); go_upto_region 1 with (first | ((with_reducible refine gate_dst (N := 1) rfl ?_); (try (refine gate_guard (by rfl) ?_; dsimp only)); refine box_event ?hg (N := 1) ?hd (cs := #[.slice A0_0 l0_0.length c0_0, .slice A0_1 l0_1.length c0_1, .slice A0_2 l0_2.length c0_2, .slice A0_3 l0_3.length c0_3, .slice A0_4 l0_4.length c0_4]) (t := 26) ?hr ?_; (case hd => rfl); (case hg => rfl); (case hr => first | (go_simp; done) | (go_simp; rfl)); intro gb593 hg w3 hbox hb; have n0_ := Ak (below_step (by repeat (first | (with_reducible first | exact HB.out | apply below_alloc | apply pw_below_drewN | apply below_drew1) | exact HB.out)) hb); have n1_ := Ak (hbox); have n2_ := Ak ((by rw [hg]; exact (below_size (by repeat (first | (with_reducible first | exact HB.out | apply below_alloc | apply pw_below_drewN | apply below_drew1) | exact HB.out))) : w.heap.size ≤ gb593)); have n3_ := Ak ((by rw [hg]; exact (below_size (by repeat (first | (with_reducible first | exact HB.out | apply below_alloc | apply pw_below_drewN | apply below_drew1) | exact HB.out))) : w.heap.size ≤ gb593)); clear HB; have HB := n0_; have BK593 := n1_; have GW593 := n2_; have GE593 := n3_; clear n0_ n1_ n2_ n3_; clear hb hbox hg)))
 (try simp only [Act.put, List.setIfInBounds_toArray, List.set_cons_zero, List.set_cons_succ])
 go_cut [32] (fun v32 wc => ∃ (kq : Nat) (x32_1 : Bool), v32 = .bool x32_1 ∧ Aside0 (impl_StoreOk.j0 kq x32_1 l0_0 l0_1 l0_2 l0_3 l0_4 = some r) ∧ Aside0 (kq ≤ k) ∧ Aside0 (wc.heap[gb593]? = some (.cells #[(.slice A0_0 l0_0.length c0_0), (.slice A0_1 l0_1.length c0_1), (.slice A0_2 l0_2.length c0_2), (.slice A0_3 l0_3.length c0_3), (.slice A0_4 l0_4.length c0_4)] 26 (0, 0))) ∧ Aside0 (Below w.heap.size w wc))
 case first =>
  have H := HC2.out
  clear HC2
  by_cases c4 : (l0_0.length : Int) = 3
  ·rw [if_pos c4] at H
   have c4b0 : ((l0_0.length : Int) == 3) = true := beq_iff_eq.mpr c4
   have c4b1 : ((l0_0.length : Int) != 3) = false := bne_eq_false_iff_eq.mpr c4
   clear c4
   (first | rw [c4b0] | (simp only [i64_w, i32_w]; rw [c4b0]) | skip)
   by_cases c5 : (l0_1.length : Int) = 3
   ·rw [if_pos c5] at H
    have c5b0 : ((l0_1.length : Int) == 3) = true := beq_iff_eq.mpr c5
    have c5b1 : ((l0_1.length : Int) != 3) = false := bne_eq_false_iff_eq.mpr c5
    clear c5
    by_cases c6 : (l0_2.length : Int) = 3
    ·rw [if_pos c6] at H
     have c6b0 : ((l0_2.length : Int) == 3) = true := beq_iff_eq.mpr c6
     have c6b1 : ((l0_2.length : Int) != 3) = false := bne_eq_false_iff_eq.mpr c6
     clear c6
     by_cases c7 : (l0_3.length : Int) = 3
     ·rw [if_pos c7] at H
      have c7b0 : ((l0_3.length : Int) == 3) = true := beq_iff_eq.mpr c7
      have c7b1 : ((l0_3.length : Int) != 3) = false := bne_eq_false_iff_eq.mpr c7
      clear c7
      have H' := Ak H
      clear H
      have hcz8_0 : w3.cell? ⟨gb593, 0, none⟩ = some (.slice A0_0 l0_0.length c0_0) := (blk_cell BK593.out 0).trans rfl
      have hcz8_1 : w3.cell? ⟨gb593, 1, none⟩ = some (.slice A0_1 l0_1.length c0_1) := (blk_cell BK593.out 1).trans rfl
      have hcz8_2 : w3.cell? ⟨gb593, 2, none⟩ = some (.slice A0_2 l0_2.length c0_2) := (blk_cell BK593.out 2).trans rfl
      have hcz8_3 : w3.cell? ⟨gb593, 3, none⟩ = some (.slice A0_3 l0_3.length c0_3) := (blk_cell BK593.out 3).trans rfl
      have hcz8_4 : w3.cell? ⟨gb593, 4, none⟩ = some (.slice A0_4 l0_4.length c0_4) := (blk_cell BK593.out 4).trans rfl
      have hfz8_0 := blk_frozen BK593.out 0
      have hfz8_1 := blk_frozen BK593.out 1
      have hfz8_2 := blk_frozen BK593.out 2
      have hfz8_3 := blk_frozen BK593.out 3
      have hfz8_4 := blk_frozen BK593.out 4
      go_wp2
      repeat (go_quiet (fail); try go_wp2)
      go_meet
      case rel => exact ⟨_, (((l0_4.length : Int) != 3)), (by first | rfl | (simp; done) | (simp [*]; done)), H', ⟨by first | omega | exact Nat.le_refl _⟩, ⟨by (with_reducible repeat (first | refine blk_drewN ?_ _ | refine blk_drew ?_ | refine blk_alloc ?_ _)); exact BK593.out⟩, ⟨by repeat (first | (with_reducible first | exact HB.out | apply below_alloc | apply pw_below_drewN | apply below_drew1 | refine below_set ?_ GE593.out) | exact HB.out)⟩⟩
     ·rw [if_neg c7] at H
      have c7b0 : ((l0_3.length : Int) == 3) = false := beq_eq_false_iff_ne.mpr c7
      have c7b1 : ((l0_3.length : Int) != 3) = true := bne_iff_ne.mpr c7
      have H' := Ak H
      clear H
      have hcz9_0 : w3.cell? ⟨gb593, 0, none⟩ = some (.slice A0_0 l0_0.length c0_0) := (blk_cell BK593.out 0).trans rfl
      have hcz9_1 : w3.cell? ⟨gb593, 1, none⟩ = some (.slice A0_1 l0_1.length c0_1) := (blk_cell BK593.out 1).trans rfl
      have hcz9_2 : w3.cell? ⟨gb593, 2, none⟩ = some (.slice A0_2 l0_2.length c0_2) := (blk_cell BK593.out 2).trans rfl
      have hcz9_3 : w3.cell? ⟨gb593, 3, none⟩ = some (.slice A0_3 l0_3.length c0_3) := (blk_cell BK593.out 3).trans rfl
      have hcz9_4 : w3.cell? ⟨gb593, 4, none⟩ = some (.slice A0_4 l0_4.length c0_4) := (blk_cell BK593.out 4).trans rfl
      have hfz9_0 := blk_frozen BK593.out 0
      have hfz9_1 := blk_frozen BK593.out 1
      have hfz9_2 := blk_frozen BK593.out 2
      have hfz9_3 := blk_frozen BK593.out 3
      have hfz9_4 := blk_frozen BK593.out 4
      go_wp2
      repeat (go_quiet (fail); try go_wp2)
      go_meet
      case rel => exact ⟨_, (true), (by first | rfl | (simp; done) | (simp [*]; done)), H', ⟨by first | omega | exact Nat.le_refl _⟩, ⟨by (with_reducible repeat (first | refine blk_drewN ?_ _ | refine blk_drew ?_ | refine blk_alloc ?_ _)); exact BK593.out⟩, ⟨by repeat (first | (with_reducible first | exact HB.out | apply below_alloc | apply pw_below_drewN | apply below_drew1 | refine below_set ?_ GE593.out) | exact HB.out)⟩⟩
    ·rw [if_neg c6] at H
     have c6b0 : ((l0_2.length : Int) == 3) = false := beq_eq_false_iff_ne.mpr c6
     have c6b1 : ((l0_2.length : Int) != 3) = true := bne_iff_ne.mpr c6
     have H' := Ak H
     clear H
     have hcz10_0 : w3.cell? ⟨gb593, 0, none⟩ = some (.slice A0_0 l0_0.length c0_0) := (blk_cell BK593.out 0).trans rfl
     have hcz10_1 : w3.cell? ⟨gb593, 1, none⟩ = some (.slice A0_1 l0_1.length c0_1) := (blk_cell BK593.out 1).trans rfl
     have hcz10_2 : w3.cell? ⟨gb593, 2, none⟩ = some (.slice A0_2 l0_2.length c0_2) := (blk_cell BK593.out 2).trans rfl
     have hcz10_3 : w3.cell? ⟨gb593, 3, none⟩ = some (.slice A0_3 l0_3.length c0_3) := (blk_cell BK593.out 3).trans rfl
     have hcz10_4 : w3.cell? ⟨gb593, 4, none⟩ = some (.slice A0_4 l0_4.length c0_4) := (blk_cell BK593.out 4).trans rfl
     have hfz10_0 := blk_frozen BK593.out 0
     have hfz10_1 := blk_frozen BK593.out 1
     have hfz10_2 := blk_frozen BK593.out 2
     have hfz10_3 := blk_frozen BK593.out 3
     have hfz10_4 := blk_frozen BK593.out 4
     go_wp2
     repeat (go_quiet (fail); try go_wp2)
     go_meet
     case rel => exact ⟨_, (true), (by first | rfl | (simp; done) | (simp [*]; done)), H', ⟨by first | omega | exact Nat.le_refl _⟩, ⟨by (with_reducible repeat (first | refine blk_drewN ?_ _ | refine blk_drew ?_ | refine blk_alloc ?_ _)); exact BK593.out⟩, ⟨by repeat (first | (with_reducible first | exact HB.out | apply below_alloc | apply pw_below_drewN | apply below_drew1 | refine below_set ?_ GE593.out) | exact HB.out)⟩⟩
   ·rw [if_neg c5] at H
    have c5b0 : ((l0_1.length : Int) == 3) = false := beq_eq_false_iff_ne.mpr c5
    have c5b1 : ((l0_1.length : Int) != 3) = true := bne_iff_ne.mpr c5
    have H' := Ak H
    clear H
    have hcz11_0 : w3.cell? ⟨gb593, 0, none⟩ = some (.slice A0_0 l0_0.length c0_0) := (blk_cell BK593.out 0).trans rfl
    have hcz11_1 : w3.cell? ⟨gb593, 1, none⟩ = some (.slice A0_1 l0_1.length c0_1) := (blk_cell BK593.out 1).trans rfl
    have hcz11_2 : w3.cell? ⟨gb593, 2, none⟩ = some (.slice A0_2 l0_2.length c0_2) := (blk_cell BK593.out 2).trans rfl
    have hcz11_3 : w3.cell? ⟨gb593, 3, none⟩ = some (.slice A0_3 l0_3.length c0_3) := (blk_cell BK593.out 3).trans rfl
    have hcz11_4 : w3.cell? ⟨gb593, 4, none⟩ = some (.slice A0_4 l0_4.length c0_4) := (blk_cell BK593.out 4).trans rfl
    have hfz11_0 := blk_frozen BK593.out 0
    have hfz11_1 := blk_frozen BK593.out 1
    have hfz11_2 := blk_frozen BK593.out 2
    have hfz11_3 := blk_frozen BK593.out 3
    have hfz11_4 := blk_frozen BK593.out 4
    go_wp2
    repeat (go_quiet (fail); try go_wp2)
    go_meet
    case rel => exact ⟨_, (true), (by first | rfl | (simp; done) | (simp [*]; done)), H', ⟨by first | omega | exact Nat.le_refl _⟩, ⟨by (with_reducible repeat (first | refine blk_drewN ?_ _ | refine blk_drew ?_ | refine blk_alloc ?_ _)); exact BK593.out⟩, ⟨by repeat (first | (with_reducible first | exact HB.out | apply below_alloc | apply pw_below_drewN | apply below_drew1 | refine below_set ?_ GE593.out) | exact HB.out)⟩⟩
  ·rw [if_neg c4] at H
   have c4b0 : ((l0_0.length : Int) == 3) = false := beq_eq_false_iff_ne.mpr c4
   have c4b1 : ((l0_0.length : Int) != 3) = true := bne_iff_ne.mpr c4
   (first | rw [c4b0] | (simp only [i64_w, i32_w]; rw [c4b0]) | skip)
   have H' := Ak H
   clear H
   have hcz12_0 : w3.cell? ⟨gb593, 0, none⟩ = some (.slice A0_0 l0_0.length c0_0) := (blk_cell BK593.out 0).trans rfl
   have hcz12_1 : w3.cell? ⟨gb593, 1, none⟩ = some (.slice A0_1 l0_1.length c0_1) := (blk_cell BK593.out 1).trans rfl
   have hcz12_2 : w3.cell? ⟨gb593, 2, none⟩ = some (.slice A0_2 l0_2.length c0_2) := (blk_cell BK593.out 2).trans rfl
   have hcz12_3 : w3.cell? ⟨gb593, 3, none⟩ = some (.slice A0_3 l0_3.length c0_3) := (blk_cell BK593.out 3).trans rfl
   have hcz12_4 : w3.cell? ⟨gb593, 4, none⟩ = some (.slice A0_4 l0_4.length c0_4) := (blk_cell BK593.out 4).trans rfl
   have hfz12_0 := blk_frozen BK593.out 0
   have hfz12_1 := blk_frozen BK593.out 1
   have hfz12_2 := blk_frozen BK593.out 2
   have hfz12_3 := blk_frozen BK593.out 3
   have hfz12_4 := blk_frozen BK593.out 4
   go_wp2
   repeat (go_quiet (fail); try go_wp2)
   go_meet
   case rel => exact ⟨_, (true), (by first | rfl | (simp; done) | (simp [*]; done)), H', ⟨by first | omega | exact Nat.le_refl _⟩, ⟨by (with_reducible repeat (first | refine blk_drewN ?_ _ | refine blk_drew ?_ | refine blk_alloc ?_ _)); exact BK593.out⟩, ⟨by repeat (first | (with_reducible first | exact HB.out | apply below_alloc | apply pw_below_drewN | apply below_drew1 | refine below_set ?_ GE593.out) | exact HB.out)⟩⟩
 case rest =>
  clear HC2
  try clear c2
  try clear p2
  try clear c4
  try clear c4b0
  try clear c4b1
  try clear c5
  try clear c5b0
  try clear c5b1
  try clear c6
  try clear c6b0
  try clear c6b1
  try clear c7
  try clear c7b0
  try clear c7b1
  try clear hcz10_0
  try clear hcz10_1
  try clear hcz10_2
  try clear hcz10_3
  try clear hcz10_4
  try clear hcz11_0
  try clear hcz11_1
  try clear hcz11_2
  try clear hcz11_3
  try clear hcz11_4
  try clear hcz12_0
  try clear hcz12_1
  try clear hcz12_2
  try clear hcz12_3
  try clear hcz12_4
  try clear hcz8_0
  try clear hcz8_1
  try clear hcz8_2
  try clear hcz8_3
  try clear hcz8_4
  try clear hcz9_0
  try clear hcz9_1
  try clear hcz9_2
  try clear hcz9_3
  try clear hcz9_4
  try clear hfz10_0
  try clear hfz10_1
  try clear hfz10_2
  try clear hfz10_3
  try clear hfz10_4
  try clear hfz11_0
  try clear hfz11_1
  try clear hfz11_2
  try clear hfz11_3
  try clear hfz11_4
  try clear hfz12_0
  try clear hfz12_1
  try clear hfz12_2
  try clear hfz12_3
  try clear hfz12_4
  try clear hfz8_0
  try clear hfz8_1
  try clear hfz8_2
  try clear hfz8_3
  try clear hfz8_4
  try clear hfz9_0
  try clear hfz9_1
  try clear hfz9_2
  try clear hfz9_3
  try clear hfz9_4
  obtain ⟨kq, x32_1, rfl, HA, HJ1, BK593, HB⟩ := hcut
  cases kq with
  | zero => exact absurd HA.out (by simp [impl_StoreOk.j0])
  | succ kj1 =>
   have H := HA.out
   clear HA
   simp only [impl_StoreOk.j0] at H
   by_cases c13 : x32_1 = true
   ·subst c13
    have H1 : (some false) = some r := by rw [if_pos rfl] at H; exact H
    clear H
    have H := H1
    clear H1
    obtain rfl := Option.some.inj H
    go_wp2
    repeat (go_quiet (fail); try go_wp2)
    go_ret
    exact ⟨by first | rfl | (simp [errW_none, errW_some] <;> rfl) | (simp [*, errW_none, errW_some] <;> rfl), by repeat (first | (with_reducible first | exact HB.out | apply below_alloc | apply pw_below_drewN | apply below_drew1 | refine below_set ?_ GE593.out) | exact HB.out)⟩
   ·replace c13 := Bool.eq_false_iff.mpr c13
    subst c13
    have H1 : (impl_StoreOk.l0 kj1 0 l0_0 l0_1 l0_2 l0_3 l0_4) = some r := by rw [if_neg (show ¬ (false = true) by decide)] at H; exact H
    clear H
    have H := H1
    clear H1
    have H' := Ak H
    clear H
    go_wp2
    repeat (go_quiet (fail); try go_wp2)
    go_loopg [33] kj1 (fun kq v33 w' => ∃ (x33_2 : Int), v33 = .int .i64 x33_2 ∧ Aside0 (impl_StoreOk.l0 kq x33_2 l0_0 l0_1 l0_2 l0_3 l0_4 = some r) ∧ Aside0 (kq ≤ kj1) ∧ Aside0 (w'.heap[gb593]? = some (.cells #[(.slice A0_0 l0_0.length c0_0), (.slice A0_1 l0_1.length c0_1), (.slice A0_2 l0_2.length c0_2), (.slice A0_3 l0_3.length c0_3), (.slice A0_4 l0_4.length c0_4)] 26 (0, 0))) ∧ Aside0 (Below w.heap.size w w'))
    case atStart => exact ⟨(0), (by first | rfl | (simp; done) | (simp [*]; done)), H', ⟨Nat.le_refl _⟩, ⟨by (with_reducible repeat (first | refine blk_drewN ?_ _ | refine blk_drew ?_ | refine blk_alloc ?_ _)); exact BK593.out⟩, ⟨by repeat (first | (with_reducible first | exact HB.out | apply below_alloc | apply pw_below_drewN | apply below_drew1 | refine below_set ?_ GE593.out) | exact HB.out)⟩⟩
    case round =>
     clear H'
     try clear c1
     try clear c2
     try clear p2
     try clear c4
     try clear c4b0
     try clear c4b1
     try clear c5
     try clear c5b0
     try clear c5b1
     try clear c6
     try clear c6b0
     try clear c6b1
     try clear c7
     try clear c7b0
     try clear c7b1
     try clear c13
     try clear hcz10_0
     try clear hcz10_1
     try clear hcz10_2
     try clear hcz10_3
     try clear hcz10_4
     try clear hcz11_0
     try clear hcz11_1
     try clear hcz11_2
     try clear hcz11_3
     try clear hcz11_4
     try clear hcz12_0
     try clear hcz12_1
     try clear hcz12_2
     try clear hcz12_3
     try clear hcz12_4
     try clear hcz8_0
     try clear hcz8_1
     try clear hcz8_2
     try clear hcz8_3
     try clear hcz8_4
     try clear hcz9_0
     try clear hcz9_1
     try clear hcz9_2
     try clear hcz9_3
     try clear hcz9_4
     try clear hfz10_0
     try clear hfz10_1
     try clear hfz10_2
     try clear hfz10_3
     try clear hfz10_4
     try clear hfz11_0
     try clear hfz11_1
     try clear hfz11_2
     try clear hfz11_3
     try clear hfz11_4
     try clear hfz12_0
     try clear hfz12_1
     try clear hfz12_2
     try clear hfz12_3
     try clear hfz12_4
     try clear hfz8_0
     try clear hfz8_1
     try clear hfz8_2
     try clear hfz8_3
     try clear hfz8_4
     try clear hfz9_0
     try clear hfz9_1
     try clear hfz9_2
     try clear hfz9_3
     try clear hfz9_4
     try clear p2
     obtain ⟨x33_2, rfl, HA, HK2, BK593, HB⟩ := hrel
     cases gk with
     | zero => exact absurd HA.out (by simp [impl_StoreOk.l0])
     | succ k2 =>
      have H := HA.out
      clear HA
      simp only [impl_StoreOk.l0] at H
      by_cases c14 : x33_2 < 3
      ·rw [if_pos c14] at H
       have c14b0 : decide (x33_2 < 3) = true := decide_eq_true c14
       clear c14
       by_cases c15 : 0 ≤ x33_2
       ·rw [if_pos c15] at H
        have c15b0 : decide (0 ≤ x33_2) = true := decide_eq_true c15
        clear c15
        by_cases c16 : x33_2 < (l0_0.length : Int)
        ·rw [if_pos c16] at H
         have c16b0 : decide (x33_2 < (l0_0.length : Int)) = true := decide_eq_true c16
         clear c16
         replace H := Option.bind_eq_some_iff.mp H
         obtain ⟨t595, A170, H⟩ := H
         replace H : (if t595 = true then (if x33_2 < (l0_1.length : Int) then ((impl_TextOk.f k2 (rdOf ByteArray.empty l0_1 x33_2)).bind fun t597 => (if t597 = true then (impl_StoreOk.l0 k2 (wrap64 (x33_2 + 1)) l0_0 l0_1 l0_2 l0_3 l0_4) else (some false))) else (none)) else (some false)) = some r := H
         have A17 := Ak A170
         clear A170
         by_cases c18 : t595 = true
         ·subst c18
          have H1 : (if x33_2 < (l0_1.length : Int) then ((impl_TextOk.f k2 (rdOf ByteArray.empty l0_1 x33_2)).bind fun t597 => (if t597 = true then (impl_StoreOk.l0 k2 (wrap64 (x33_2 + 1)) l0_0 l0_1 l0_2 l0_3 l0_4) else (some false))) else (none)) = some r := by rw [if_pos rfl] at H; exact H
          clear H
          have H := H1
          clear H1
          by_cases c19 : x33_2 < (l0_1.length : Int)
          ·rw [if_pos c19] at H
           have c19b0 : decide (x33_2 < (l0_1.length : Int)) = true := decide_eq_true c19
           clear c19
           replace H := Option.bind_eq_some_iff.mp H
           obtain ⟨t597, A200, H⟩ := H
           replace H : (if t597 = true then (impl_StoreOk.l0 k2 (wrap64 (x33_2 + 1)) l0_0 l0_1 l0_2 l0_3 l0_4) else (some false)) = some r := H
           have A20 := Ak A200
           clear A200
           by_cases c21 : t597 = true
           ·subst c21
            have H1 : (impl_StoreOk.l0 k2 (wrap64 (x33_2 + 1)) l0_0 l0_1 l0_2 l0_3 l0_4) = some r := by rw [if_pos rfl] at H; exact H
            clear H
            have H := H1
            clear H1
            have H' := Ak H
            clear H
            have hcz22_0 : wr.cell? ⟨gb593, 0, none⟩ = some (.slice A0_0 l0_0.length c0_0) := (blk_cell BK593.out 0).trans rfl
            have hcz22_1 : wr.cell? ⟨gb593, 1, none⟩ = some (.slice A0_1 l0_1.length c0_1) := (blk_cell BK593.out 1).trans rfl
            have hcz22_2 : wr.cell? ⟨gb593, 2, none⟩ = some (.slice A0_2 l0_2.length c0_2) := (blk_cell BK593.out 2).trans rfl
            have hcz22_3 : wr.cell? ⟨gb593, 3, none⟩ = some (.slice A0_3 l0_3.length c0_3) := (blk_cell BK593.out 3).trans rfl
            have hcz22_4 : wr.cell? ⟨gb593, 4, none⟩ = some (.slice A0_4 l0_4.length c0_4) := (blk_cell BK593.out 4).trans rfl
            have hfz22_0 := blk_frozen BK593.out 0
            have hfz22_1 := blk_frozen BK593.out 1
            have hfz22_2 := blk_frozen BK593.out 2
            have hfz22_3 := blk_frozen BK593.out 3
            have hfz22_4 := blk_frozen BK593.out 4
            have p594 : 0 ≤ (x33_2 : Int) := of_decide_eq_true (by first | (with_reducible assumption) | assumption)
            have q594 : x33_2 < (l0_0.length : Int) := of_decide_eq_true (by first | (with_reducible assumption) | assumption)
            obtain ⟨ad594, e594, hx594_0⟩ := Kd.at_string HR0_0.out x33_2 p594 q594
            cases e594
            replace hx594_0 := (HB.out.cell (World.block_lt_of_cell? w _ hx594_0)).trans hx594_0
            replace p594 := eq_true p594
            replace q594 := eq_true q594
            go_wp2_with (first | (go_at_call 57; (with_reducible refine (impl_TextOk.calls k2 (rdOf ByteArray.empty l0_0 x33_2) true _ A17.out).mono ?_); rintro e w' ⟨rfl, ⟨nd, rfl⟩⟩; (try first | exact ⟨rfl, _, World.drewN_drewN _ _ _⟩ | exact ⟨rfl, _, Eq.trans (World.drewN_drewN _ _ _) (congrArg (World.drewN _) (Nat.add_assoc _ _ _))⟩); have p596 : 0 ≤ (x33_2 : Int) := of_decide_eq_true (by first | (with_reducible assumption) | assumption); have q596 : x33_2 < (l0_1.length : Int) := of_decide_eq_true (by first | (with_reducible assumption) | assumption); obtain ⟨ad596, e596, hx596_0⟩ := Kd.at_string HR0_1.out x33_2 p596 q596; cases e596; replace hx596_0 := (HB.out.cell (World.block_lt_of_cell? w _ hx596_0)).trans hx596_0; replace p596 := eq_true p596; replace q596 := eq_true q596) | (go_at_call 57; (with_reducible refine (impl_TextOk.calls k2 (rdOf ByteArray.empty l0_1 x33_2) true _ A20.out).mono ?_); rintro e w' ⟨rfl, ⟨nd, rfl⟩⟩; (try first | exact ⟨rfl, _, World.drewN_drewN _ _ _⟩ | exact ⟨rfl, _, Eq.trans (World.drewN_drewN _ _ _) (congrArg (World.drewN _) (Nat.add_assoc _ _ _))⟩)))
            repeat (go_quiet (first | (go_at_call 57; (with_reducible refine (impl_TextOk.calls k2 (rdOf ByteArray.empty l0_0 x33_2) true _ A17.out).mono ?_); rintro e w' ⟨rfl, ⟨nd, rfl⟩⟩; (try first | exact ⟨rfl, _, World.drewN_drewN _ _ _⟩ | exact ⟨rfl, _, Eq.trans (World.drewN_drewN _ _ _) (congrArg (World.drewN _) (Nat.add_assoc _ _ _))⟩); have p596 : 0 ≤ (x33_2 : Int) := of_decide_eq_true (by first | (with_reducible assumption) | assumption); have q596 : x33_2 < (l0_1.length : Int) := of_decide_eq_true (by first | (with_reducible assumption) | assumption); obtain ⟨ad596, e596, hx596_0⟩ := Kd.at_string HR0_1.out x33_2 p596 q596; cases e596; replace hx596_0 := (HB.out.cell (World.block_lt_of_cell? w _ hx596_0)).trans hx596_0; replace p596 := eq_true p596; replace q596 := eq_true q596) | (go_at_call 57; (with_reducible refine (impl_TextOk.calls k2 (rdOf ByteArray.empty l0_1 x33_2) true _ A20.out).mono ?_); rintro e w' ⟨rfl, ⟨nd, rfl⟩⟩; (try first | exact ⟨rfl, _, World.drewN_drewN _ _ _⟩ | exact ⟨rfl, _, Eq.trans (World.drewN_drewN _ _ _) (congrArg (World.drewN _) (Nat.add_assoc _ _ _))⟩))); try go_wp2_with (first | (go_at_call 57; (with_reducible refine (impl_TextOk.calls k2 (rdOf ByteArray.empty l0_0 x33_2) true _ A17.out).mono ?_); rintro e w' ⟨rfl, ⟨nd, rfl⟩⟩; (try first | exact ⟨rfl, _, World.drewN_drewN _ _ _⟩ | exact ⟨rfl, _, Eq.trans (World.drewN_drewN _ _ _) (congrArg (World.drewN _) (Nat.add_assoc _ _ _))⟩); have p596 : 0 ≤ (x33_2 : Int) := of_decide_eq_true (by first | (with_reducible assumption) | assumption); have q596 : x33_2 < (l0_1.length : Int) := of_decide_eq_true (by first | (with_reducible assumption) | assumption); obtain ⟨ad596, e596, hx596_0⟩ := Kd.at_string HR0_1.out x33_2 p596 q596; cases e596; replace hx596_0 := (HB.out.cell (World.block_lt_of_cell? w _ hx596_0)).trans hx596_0; replace p596 := eq_true p596; replace q596 := eq_true q596) | (go_at_call 57; (with_reducible refine (impl_TextOk.calls k2 (rdOf ByteArray.empty l0_1 x33_2) true _ A20.out).mono ?_); rintro e w' ⟨rfl, ⟨nd, rfl⟩⟩; (try first | exact ⟨rfl, _, World.drewN_drewN _ _ _⟩ | exact ⟨rfl, _, Eq.trans (World.drewN_drewN _ _ _) (congrArg (World.drewN _) (Nat.add_assoc _ _ _))⟩))))
            go_roundg k2
            case measure => have := HJ1.out; have := HK2.out; omega
            case rel => exact ⟨(wrap64 (x33_2 + 1)), (by first | rfl | (simp; done) | (simp [*]; done)), H', ⟨by have := HJ1.out; have := HK2.out; omega⟩, ⟨by (with_reducible repeat (first | refine blk_drewN ?_ _ | refine blk_drew ?_ | refine blk_alloc ?_ _)); exact BK593.out⟩, ⟨by repeat (first | (with_reducible first | exact HB.out | apply below_alloc | apply pw_below_drewN | apply below_drew1 | refine below_set ?_ GE593.out) | exact HB.out)⟩⟩
           ·replace c21 := Bool.eq_false_iff.mpr c21
            subst c21
            have H1 : (some false) = some r := by rw [if_neg (show ¬ (false = true) by decide)] at H; exact H
            clear H
            have H := H1
            clear H1
            obtain rfl := Option.some.inj H
            have hcz23_0 : wr.cell? ⟨gb593, 0, none⟩ = some (.slice A0_0 l0_0.length c0_0) := (blk_cell BK593.out 0).trans rfl
            have hcz23_1 : wr.cell? ⟨gb593, 1, none⟩ = some (.slice A0_1 l0_1.length c0_1) := (blk_cell BK593.out 1).trans rfl
            have hcz23_2 : wr.cell? ⟨gb593, 2, none⟩ = some (.slice A0_2 l0_2.length c0_2) := (blk_cell BK593.out 2).trans rfl
            have hcz23_3 : wr.cell? ⟨gb593, 3, none⟩ = some (.slice A0_3 l0_3.length c0_3) := (blk_cell BK593.out 3).trans rfl
            have hcz23_4 : wr.cell? ⟨gb593, 4, none⟩ = some (.slice A0_4 l0_4.length c0_4) := (blk_cell BK593.out 4).trans rfl
            have hfz23_0 := blk_frozen BK593.out 0
            have hfz23_1 := blk_frozen BK593.out 1
            have hfz23_2 := blk_frozen BK593.out 2
            have hfz23_3 := blk_frozen BK593.out 3
            have hfz23_4 := blk_frozen BK593.out 4
            have p594 : 0 ≤ (x33_2 : Int) := of_decide_eq_true (by first | (with_reducible assumption) | assumption)
            have q594 : x33_2 < (l0_0.length : Int) := of_decide_eq_true (by first | (with_reducible assumption) | assumption)
            obtain ⟨ad594, e594, hx594_0⟩ := Kd.at_string HR0_0.out x33_2 p594 q594
            cases e594
            replace hx594_0 := (HB.out.cell (World.block_lt_of_cell? w _ hx594_0)).trans hx594_0
            replace p594 := eq_true p594
            replace q594 := eq_true q594
            go_wp2_with (first | (go_at_call 57; (with_reducible refine (impl_TextOk.calls k2 (rdOf ByteArray.empty l0_0 x33_2) true _ A17.out).mono ?_); rintro e w' ⟨rfl, ⟨nd, rfl⟩⟩; (try first | exact ⟨rfl, _, World.drewN_drewN _ _ _⟩ | exact ⟨rfl, _, Eq.trans (World.drewN_drewN _ _ _) (congrArg (World.drewN _) (Nat.add_assoc _ _ _))⟩); have p596 : 0 ≤ (x33_2 : Int) := of_decide_eq_true (by first | (with_reducible assumption) | assumption); have q596 : x33_2 < (l0_1.length : Int) := of_decide_eq_true (by first | (with_reducible assumption) | assumption); obtain ⟨ad596, e596, hx596_0⟩ := Kd.at_string HR0_1.out x33_2 p596 q596; cases e596; replace hx596_0 := (HB.out.cell (World.block_lt_of_cell? w _ hx596_0)).trans hx596_0; replace p596 := eq_true p596; replace q596 := eq_true q596) | (go_at_call 57; (with_reducible refine (impl_TextOk.calls k2 (rdOf ByteArray.empty l0_1 x33_2) false _ A20.out).mono ?_); rintro e w' ⟨rfl, ⟨nd, rfl⟩⟩; (try first | exact ⟨rfl, _, World.drewN_drewN _ _ _⟩ | exact ⟨rfl, _, Eq.trans (World.drewN_drewN _ _ _) (congrArg (World.drewN _) (Nat.add_assoc _ _ _))⟩)))
            repeat (go_quiet (first | (go_at_call 57; (with_reducible refine (impl_TextOk.calls k2 (rdOf ByteArray.empty l0_0 x33_2) true _ A17.out).mono ?_); rintro e w' ⟨rfl, ⟨nd, rfl⟩⟩; (try first | exact ⟨rfl, _, World.drewN_drewN _ _ _⟩ | exact ⟨rfl, _, Eq.trans (World.drewN_drewN _ _ _) (congrArg (World.drewN _) (Nat.add_assoc _ _ _))⟩); have p596 : 0 ≤ (x33_2 : Int) := of_decide_eq_true (by first | (with_reducible assumption) | assumption); have q596 : x33_2 < (l0_1.length : Int) := of_decide_eq_true (by first | (with_reducible assumption) | assumption); obtain ⟨ad596, e596, hx596_0⟩ := Kd.at_string HR0_1.out x33_2 p596 q596; cases e596; replace hx596_0 := (HB.out.cell (World.block_lt_of_cell? w _ hx596_0)).trans hx596_0; replace p596 := eq_true p596; replace q596 := eq_true q596) | (go_at_call 57; (with_reducible refine (impl_TextOk.calls k2 (rdOf ByteArray.empty l0_1 x33_2) false _ A20.out).mono ?_); rintro e w' ⟨rfl, ⟨nd, rfl⟩⟩; (try first | exact ⟨rfl, _, World.drewN_drewN _ _ _⟩ | exact ⟨rfl, _, Eq.trans (World.drewN_drewN _ _ _) (congrArg (World.drewN _) (Nat.add_assoc _ _ _))⟩))); try go_wp2_with (first | (go_at_call 57; (with_reducible refine (impl_TextOk.calls k2 (rdOf ByteArray.empty l0_0 x33_2) true _ A17.out).mono ?_); rintro e w' ⟨rfl, ⟨nd, rfl⟩⟩; (try first | exact ⟨rfl, _, World.drewN_drewN _ _ _⟩ | exact ⟨rfl, _, Eq.trans (World.drewN_drewN _ _ _) (congrArg (World.drewN _) (Nat.add_assoc _ _ _))⟩); have p596 : 0 ≤ (x33_2 : Int) := of_decide_eq_true (by first | (with_reducible assumption) | assumption); have q596 : x33_2 < (l0_1.length : Int) := of_decide_eq_true (by first | (with_reducible assumption) | assumption); obtain ⟨ad596, e596, hx596_0⟩ := Kd.at_string HR0_1.out x33_2 p596 q596; cases e596; replace hx596_0 := (HB.out.cell (World.block_lt_of_cell? w _ hx596_0)).trans hx596_0; replace p596 := eq_true p596; replace q596 := eq_true q596) | (go_at_call 57; (with_reducible refine (impl_TextOk.calls k2 (rdOf ByteArray.empty l0_1 x33_2) false _ A20.out).mono ?_); rintro e w' ⟨rfl, ⟨nd, rfl⟩⟩; (try first | exact ⟨rfl, _, World.drewN_drewN _ _ _⟩ | exact ⟨rfl, _, Eq.trans (World.drewN_drewN _ _ _) (congrArg (World.drewN _) (Nat.add_assoc _ _ _))⟩))))
            go_ret
            exact ⟨by first | rfl | (simp [errW_none, errW_some] <;> rfl) | (simp [*, errW_none, errW_some] <;> rfl), by repeat (first | (with_reducible first | exact HB.out | apply below_alloc | apply pw_below_drewN | apply below_drew1 | refine below_set ?_ GE593.out) | exact HB.out)⟩
          ·rw [if_neg c19] at H
           exact absurd H (by simp)
         ·replace c18 := Bool.eq_false_iff.mpr c18
          subst c18
          have H1 : (some false) = some r := by rw [if_neg (show ¬ (false = true) by decide)] at H; exact H
          clear H
          have H := H1
          clear H1
          obtain rfl := Option.some.inj H
          have hcz24_0 : wr.cell? ⟨gb593, 0, none⟩ = some (.slice A0_0 l0_0.length c0_0) := (blk_cell BK593.out 0).trans rfl
          have hcz24_1 : wr.cell? ⟨gb593, 1, none⟩ = some (.slice A0_1 l0_1.length c0_1) := (blk_cell BK593.out 1).trans rfl
          have hcz24_2 : wr.cell? ⟨gb593, 2, none⟩ = some (.slice A0_2 l0_2.length c0_2) := (blk_cell BK593.out 2).trans rfl
          have hcz24_3 : wr.cell? ⟨gb593, 3, none⟩ = some (.slice A0_3 l0_3.length c0_3) := (blk_cell BK593.out 3).trans rfl
          have hcz24_4 : wr.cell? ⟨gb593, 4, none⟩ = some (.slice A0_4 l0_4.length c0_4) := (blk_cell BK593.out 4).trans rfl
          have hfz24_0 := blk_frozen BK593.out 0
          have hfz24_1 := blk_frozen BK593.out 1
          have hfz24_2 := blk_frozen BK593.out 2
          have hfz24_3 := blk_frozen BK593.out 3
          have hfz24_4 := blk_frozen BK593.out 4
          have p594 : 0 ≤ (x33_2 : Int) := of_decide_eq_true (by first | (with_reducible assumption) | assumption)
          have q594 : x33_2 < (l0_0.length : Int) := of_decide_eq_true (by first | (with_reducible assumption) | assumption)
          obtain ⟨ad594, e594, hx594_0⟩ := Kd.at_string HR0_0.out x33_2 p594 q594
          cases e594
          replace hx594_0 := (HB.out.cell (World.block_lt_of_cell? w _ hx594_0)).trans hx594_0
          replace p594 := eq_true p594
          replace q594 := eq_true q594
          go_wp2_with (first | (go_at_call 57; (with_reducible refine (impl_TextOk.calls k2 (rdOf ByteArray.empty l0_0 x33_2) false _ A17.out).mono ?_); rintro e w' ⟨rfl, ⟨nd, rfl⟩⟩; (try first | exact ⟨rfl, _, World.drewN_drewN _ _ _⟩ | exact ⟨rfl, _, Eq.trans (World.drewN_drewN _ _ _) (congrArg (World.drewN _) (Nat.add_assoc _ _ _))⟩)))
          repeat (go_quiet (first | (go_at_call 57; (with_reducible refine (impl_TextOk.calls k2 (rdOf ByteArray.empty l0_0 x33_2) false _ A17.out).mono ?_); rintro e w' ⟨rfl, ⟨nd, rfl⟩⟩; (try first | exact ⟨rfl, _, World.drewN_drewN _ _ _⟩ | exact ⟨rfl, _, Eq.trans (World.drewN_drewN _ _ _) (congrArg (World.drewN _) (Nat.add_assoc _ _ _))⟩))); try go_wp2_with (first | (go_at_call 57; (with_reducible refine (impl_TextOk.calls k2 (rdOf ByteArray.empty l0_0 x33_2) false _ A17.out).mono ?_); rintro e w' ⟨rfl, ⟨nd, rfl⟩⟩; (try first | exact ⟨rfl, _, World.drewN_drewN _ _ _⟩ | exact ⟨rfl, _, Eq.trans (World.drewN_drewN _ _ _) (congrArg (World.drewN _) (Nat.add_assoc _ _ _))⟩))))
          go_ret
          exact ⟨by first | rfl | (simp [errW_none, errW_some] <;> rfl) | (simp [*, errW_none, errW_some] <;> rfl), by repeat (first | (with_reducible first | exact HB.out | apply below_alloc | apply pw_below_drewN | apply below_drew1 | refine below_set ?_ GE593.out) | exact HB.out)⟩
        ·rw [if_neg c16] at H
         exact absurd H (by simp)
       ·rw [if_neg c15] at H
        exact absurd H (by simp)
      ·rw [if_neg c14] at H
       have c14b0 : decide (x33_2 < 3) = false := decide_eq_false c14
       clear c14
       have H' := Ak H
       clear H
       go_wp2
       repeat (go_quiet (fail); try go_wp2)
       go_loopg [53] k2 (fun kq v53 w' => ∃ (x53_3 : Int), v53 = .int .i64 x53_3 ∧ Aside0 (impl_StoreOk.l1 kq x53_3 l0_0 l0_1 l0_2 l0_3 l0_4 = some r) ∧ Aside0 (kq ≤ k2) ∧ Aside0 (w'.heap[gb593]? = some (.cells #[(.slice A0_0 l0_0.length c0_0), (.slice A0_1 l0_1.length c0_1), (.slice A0_2 l0_2.length c0_2), (.slice A0_3 l0_3.length c0_3), (.slice A0_4 l0_4.length c0_4)] 26 (0, 0))) ∧ Aside0 (Below w.heap.size w w'))
       case atStart => exact ⟨(0), (by first | rfl | (simp; done) | (simp [*]; done)), H', ⟨Nat.le_refl _⟩, ⟨by (with_reducible repeat (first | refine blk_drewN ?_ _ | refine blk_drew ?_ | refine blk_alloc ?_ _)); exact BK593.out⟩, ⟨by repeat (first | (with_reducible first | exact HB.out | apply below_alloc | apply pw_below_drewN | apply below_drew1 | refine below_set ?_ GE593.out) | exact HB.out)⟩⟩
       case round =>
        clear H'
        try clear c1
        try clear c2
        try clear p2
        try clear c4
        try clear c4b0
        try clear c4b1
        try clear c5
        try clear c5b0
        try clear c5b1
        try clear p5
        try clear q5
        try clear hx5
        try clear c6
        try clear c6b0
        try clear c6b1
        try clear p6
        try clear c7
        try clear c7b0
        try clear c7b1
        try clear c13
        try clear c14
        try clear c14b0
        try clear c15
        try clear c15b0
        try clear c16
        try clear c16b0
        try clear c18
        try clear c19
        try clear c19b0
        try clear c21
        try clear c23
        try clear hcz10_0
        try clear hcz10_1
        try clear hcz10_2
        try clear hcz10_3
        try clear hcz10_4
        try clear hcz11_0
        try clear hcz11_1
        try clear hcz11_2
        try clear hcz11_3
        try clear hcz11_4
        try clear hcz12_0
        try clear hcz12_1
        try clear hcz12_2
        try clear hcz12_3
        try clear hcz12_4
        try clear hcz22_0
        try clear hcz22_1
        try clear hcz22_2
        try clear hcz22_3
        try clear hcz22_4
        try clear hcz23_0
        try clear hcz23_1
        try clear hcz23_2
        try clear hcz23_3
        try clear hcz23_4
        try clear hcz24_0
        try clear hcz24_1
        try clear hcz24_2
        try clear hcz24_3
        try clear hcz24_4
        try clear hcz8_0
        try clear hcz8_1
        try clear hcz8_2
        try clear hcz8_3
        try clear hcz8_4
        try clear hcz9_0
        try clear hcz9_1
        try clear hcz9_2
        try clear hcz9_3
        try clear hcz9_4
        try clear hfz10_0
        try clear hfz10_1
        try clear hfz10_2
        try clear hfz10_3
        try clear hfz10_4
        try clear hfz11_0
        try clear hfz11_1
        try clear hfz11_2
        try clear hfz11_3
        try clear hfz11_4
        try clear hfz12_0
        try clear hfz12_1
        try clear hfz12_2
        try clear hfz12_3
        try clear hfz12_4
        try clear hfz22_0
        try clear hfz22_1
        try clear hfz22_2
        try clear hfz22_3
        try clear hfz22_4
        try clear hfz23_0
        try clear hfz23_1
        try clear hfz23_2
        try clear hfz23_3
        try clear hfz23_4
        try clear hfz24_0
        try clear hfz24_1
        try clear hfz24_2
        try clear hfz24_3
        try clear hfz24_4
        try clear hfz8_0
        try clear hfz8_1
        try clear hfz8_2
        try clear hfz8_3
        try clear hfz8_4
        try clear hfz9_0
        try clear hfz9_1
        try clear hfz9_2
        try clear hfz9_3
        try clear hfz9_4
        try clear hx594_0
        try clear hx596_0
        try clear p2
        try clear p594
        try clear p596
        try clear q594
        try clear q596
        obtain ⟨x53_3, rfl, HA, HK3, BK593, HB⟩ := hrel
        cases gk with
        | zero => exact absurd HA.out (by simp [impl_StoreOk.l1])
        | succ k3 =>
         have H := HA.out
         clear HA
         simp only [impl_StoreOk.l1] at H
         by_cases c25 : x53_3 < 3
         ·rw [if_pos c25] at H
          have c25b0 : decide (x53_3 < 3) = true := decide_eq_true c25
          clear c25
          by_cases c26 : 0 ≤ x53_3
          ·rw [if_pos c26] at H
           have c26b0 : decide (0 ≤ x53_3) = true := decide_eq_true c26
           clear c26
           by_cases c27 : x53_3 < (l0_3.length : Int)
           ·rw [if_pos c27] at H
            have c27b0 : decide (x53_3 < (l0_3.length : Int)) = true := decide_eq_true c27
            clear c27
            by_cases c28 : (rd l0_3 x53_3) < 0
            ·rw [if_pos c28] at H
             have c28b0 : decide ((rd l0_3 x53_3) < 0) = true := decide_eq_true c28
             clear c28
             obtain rfl := Option.some.inj H
             have hcz29_0 : wr.cell? ⟨gb593, 0, none⟩ = some (.slice A0_0 l0_0.length c0_0) := (blk_cell BK593.out 0).trans rfl
             have hcz29_1 : wr.cell? ⟨gb593, 1, none⟩ = some (.slice A0_1 l0_1.length c0_1) := (blk_cell BK593.out 1).trans rfl
             have hcz29_2 : wr.cell? ⟨gb593, 2, none⟩ = some (.slice A0_2 l0_2.length c0_2) := (blk_cell BK593.out 2).trans rfl
             have hcz29_3 : wr.cell? ⟨gb593, 3, none⟩ = some (.slice A0_3 l0_3.length c0_3) := (blk_cell BK593.out 3).trans rfl
             have hcz29_4 : wr.cell? ⟨gb593, 4, none⟩ = some (.slice A0_4 l0_4.length c0_4) := (blk_cell BK593.out 4).trans rfl
             have hfz29_0 := blk_frozen BK593.out 0
             have hfz29_1 := blk_frozen BK593.out 1
             have hfz29_2 := blk_frozen BK593.out 2
             have hfz29_3 := blk_frozen BK593.out 3
             have hfz29_4 := blk_frozen BK593.out 4
             have p598 : 0 ≤ (x53_3 : Int) := of_decide_eq_true (by first | (with_reducible assumption) | assumption)
             have q598 : x53_3 < (l0_3.length : Int) := of_decide_eq_true (by first | (with_reducible assumption) | assumption)
             obtain ⟨ad598, e598, hx598_0⟩ := Kd.at_int HR0_3.out x53_3 p598 q598
             cases e598
             replace hx598_0 := (HB.out.cell (World.block_lt_of_cell? w _ hx598_0)).trans hx598_0
             replace p598 := eq_true p598
             replace q598 := eq_true q598
             go_wp2
             repeat (go_quiet (fail); try go_wp2)
             go_ret
             exact ⟨by first | rfl | (simp [errW_none, errW_some] <;> rfl) | (simp [*, errW_none, errW_some] <;> rfl), by repeat (first | (with_reducible first | exact HB.out | apply below_alloc | apply pw_below_drewN | apply below_drew1 | refine below_set ?_ GE593.out) | exact HB.out)⟩
            ·rw [if_neg c28] at H
             have c28b0 : decide ((rd l0_3 x53_3) < 0) = false := decide_eq_false c28
             clear c28
             by_cases c30 : x53_3 < (l0_2.length : Int)
             ·rw [if_pos c30] at H
              have c30b0 : decide (x53_3 < (l0_2.length : Int)) = true := decide_eq_true c30
              clear c30
              by_cases c31 : (rd l0_3 x53_3) > (rd l0_2 x53_3)
              ·rw [if_pos c31] at H
               have c31b0 : decide ((rd l0_2 x53_3) < (rd l0_3 x53_3)) = true := decide_eq_true c31
               clear c31
               obtain rfl := Option.some.inj H
               have hcz32_0 : wr.cell? ⟨gb593, 0, none⟩ = some (.slice A0_0 l0_0.length c0_0) := (blk_cell BK593.out 0).trans rfl
               have hcz32_1 : wr.cell? ⟨gb593, 1, none⟩ = some (.slice A0_1 l0_1.length c0_1) := (blk_cell BK593.out 1).trans rfl
               have hcz32_2 : wr.cell? ⟨gb593, 2, none⟩ = some (.slice A0_2 l0_2.length c0_2) := (blk_cell BK593.out 2).trans rfl
               have hcz32_3 : wr.cell? ⟨gb593, 3, none⟩ = some (.slice A0_3 l0_3.length c0_3) := (blk_cell BK593.out 3).trans rfl
               have hcz32_4 : wr.cell? ⟨gb593, 4, none⟩ = some (.slice A0_4 l0_4.length c0_4) := (blk_cell BK593.out 4).trans rfl
               have hfz32_0 := blk_frozen BK593.out 0
               have hfz32_1 := blk_frozen BK593.out 1
               have hfz32_2 := blk_frozen BK593.out 2
               have hfz32_3 := blk_frozen BK593.out 3
               have hfz32_4 := blk_frozen BK593.out 4
               have p598 : 0 ≤ (x53_3 : Int) := of_decide_eq_true (by first | (with_reducible assumption) | assumption)
               have q598 : x53_3 < (l0_3.length : Int) := of_decide_eq_true (by first | (with_reducible assumption) | assumption)
               obtain ⟨ad598, e598, hx598_0⟩ := Kd.at_int HR0_3.out x53_3 p598 q598
               cases e598
               replace hx598_0 := (HB.out.cell (World.block_lt_of_cell? w _ hx598_0)).trans hx598_0
               replace p598 := eq_true p598
               replace q598 := eq_true q598
               have p599 : 0 ≤ (x53_3 : Int) := of_decide_eq_true (by first | (with_reducible assumption) | assumption)
               have q599 : x53_3 < (l0_3.length : Int) := of_decide_eq_true (by first | (with_reducible assumption) | assumption)
               obtain ⟨ad599, e599, hx599_0⟩ := Kd.at_int HR0_3.out x53_3 p599 q599
               obtain rfl : ad598 = ad599 := (by injection e599)
               replace hx599_0 := (HB.out.cell (World.block_lt_of_cell? w _ hx599_0)).trans hx599_0
               replace p599 := eq_true p599
               replace q599 := eq_true q599
               have p600 : 0 ≤ (x53_3 : Int) := of_decide_eq_true (by first | (with_reducible assumption) | assumption)
               have q600 : x53_3 < (l0_2.length : Int) := of_decide_eq_true (by first | (with_reducible assumption) | assumption)
               obtain ⟨ad600, e600, hx600_0⟩ := Kd.at_int HR0_2.out x53_3 p600 q600
               cases e600
               replace hx600_0 := (HB.out.cell (World.block_lt_of_cell? w _ hx600_0)).trans hx600_0
               replace p600 := eq_true p600
               replace q600 := eq_true q600
               go_wp2
               repeat (go_quiet (fail); try go_wp2)
               go_ret
               exact ⟨by first | rfl | (simp [errW_none, errW_some] <;> rfl) | (simp [*, errW_none, errW_some] <;> rfl), by repeat (first | (with_reducible first | exact HB.out | apply below_alloc | apply pw_below_drewN | apply below_drew1 | refine below_set ?_ GE593.out) | exact HB.out)⟩
              ·rw [if_neg c31] at H
               have c31b0 : decide ((rd l0_2 x53_3) < (rd l0_3 x53_3)) = false := decide_eq_false c31
               clear c31
               by_cases c33 : (rd l0_2 x53_3) > 1000
               ·rw [if_pos c33] at H
                have c33b0 : decide (1000 < (rd l0_2 x53_3)) = true := decide_eq_true c33
                clear c33
                obtain rfl := Option.some.inj H
                have hcz34_0 : wr.cell? ⟨gb593, 0, none⟩ = some (.slice A0_0 l0_0.length c0_0) := (blk_cell BK593.out 0).trans rfl
                have hcz34_1 : wr.cell? ⟨gb593, 1, none⟩ = some (.slice A0_1 l0_1.length c0_1) := (blk_cell BK593.out 1).trans rfl
                have hcz34_2 : wr.cell? ⟨gb593, 2, none⟩ = some (.slice A0_2 l0_2.length c0_2) := (blk_cell BK593.out 2).trans rfl
                have hcz34_3 : wr.cell? ⟨gb593, 3, none⟩ = some (.slice A0_3 l0_3.length c0_3) := (blk_cell BK593.out 3).trans rfl
                have hcz34_4 : wr.cell? ⟨gb593, 4, none⟩ = some (.slice A0_4 l0_4.length c0_4) := (blk_cell BK593.out 4).trans rfl
                have hfz34_0 := blk_frozen BK593.out 0
                have hfz34_1 := blk_frozen BK593.out 1
                have hfz34_2 := blk_frozen BK593.out 2
                have hfz34_3 := blk_frozen BK593.out 3
                have hfz34_4 := blk_frozen BK593.out 4
                have p598 : 0 ≤ (x53_3 : Int) := of_decide_eq_true (by first | (with_reducible assumption) | assumption)
                have q598 : x53_3 < (l0_3.length : Int) := of_decide_eq_true (by first | (with_reducible assumption) | assumption)
                obtain ⟨ad598, e598, hx598_0⟩ := Kd.at_int HR0_3.out x53_3 p598 q598
                cases e598
                replace hx598_0 := (HB.out.cell (World.block_lt_of_cell? w _ hx598_0)).trans hx598_0
                replace p598 := eq_true p598
                replace q598 := eq_true q598
                have p599 : 0 ≤ (x53_3 : Int) := of_decide_eq_true (by first | (with_reducible assumption) | assumption)
                have q599 : x53_3 < (l0_3.length : Int) := of_decide_eq_true (by first | (with_reducible assumption) | assumption)
                obtain ⟨ad599, e599, hx599_0⟩ := Kd.at_int HR0_3.out x53_3 p599 q599
                obtain rfl : ad598 = ad599 := (by injection e599)
                replace hx599_0 := (HB.out.cell (World.block_lt_of_cell? w _ hx599_0)).trans hx599_0
                replace p599 := eq_true p599
                replace q599 := eq_true q599
                have p600 : 0 ≤ (x53_3 : Int) := of_decide_eq_true (by first | (with_reducible assumption) | assumption)
                have q600 : x53_3 < (l0_2.length : Int) := of_decide_eq_true (by first | (with_reducible assumption) | assumption)
                obtain ⟨ad600, e600, hx600_0⟩ := Kd.at_int HR0_2.out x53_3 p600 q600
                cases e600
                replace hx600_0 := (HB.out.cell (World.block_lt_of_cell? w _ hx600_0)).trans hx600_0
                replace p600 := eq_true p600
                replace q600 := eq_true q600
                have p601 : 0 ≤ (x53_3 : Int) := of_decide_eq_true (by first | (with_reducible assumption) | assumption)
                have q601 : x53_3 < (l0_2.length : Int) := of_decide_eq_true (by first | (with_reducible assumption) | assumption)
                obtain ⟨ad601, e601, hx601_0⟩ := Kd.at_int HR0_2.out x53_3 p601 q601
                obtain rfl : ad600 = ad601 := (by injection e601)
                replace hx601_0 := (HB.out.cell (World.block_lt_of_cell? w _ hx601_0)).trans hx601_0
                replace p601 := eq_true p601
                replace q601 := eq_true q601
                go_wp2
                repeat (go_quiet (fail); try go_wp2)
                go_ret
                exact ⟨by first | rfl | (simp [errW_none, errW_some] <;> rfl) | (simp [*, errW_none, errW_some] <;> rfl), by repeat (first | (with_reducible first | exact HB.out | apply below_alloc | apply pw_below_drewN | apply below_drew1 | refine below_set ?_ GE593.out) | exact HB.out)⟩
               ·rw [if_neg c33] at H
                have c33b0 : decide (1000 < (rd l0_2 x53_3)) = false := decide_eq_false c33
                clear c33
                by_cases c35 : x53_3 < (l0_4.length : Int)
                ·rw [if_pos c35] at H
                 have c35b0 : decide (x53_3 < (l0_4.length : Int)) = true := decide_eq_true c35
                 clear c35
                 by_cases c36 : (rd l0_4 x53_3) < 0
                 ·rw [if_pos c36] at H
                  have c36b0 : decide ((rd l0_4 x53_3) < 0) = true := decide_eq_true c36
                  clear c36
                  obtain rfl := Option.some.inj H
                  have hcz37_0 : wr.cell? ⟨gb593, 0, none⟩ = some (.slice A0_0 l0_0.length c0_0) := (blk_cell BK593.out 0).trans rfl
                  have hcz37_1 : wr.cell? ⟨gb593, 1, none⟩ = some (.slice A0_1 l0_1.length c0_1) := (blk_cell BK593.out 1).trans rfl
                  have hcz37_2 : wr.cell? ⟨gb593, 2, none⟩ = some (.slice A0_2 l0_2.length c0_2) := (blk_cell BK593.out 2).trans rfl
                  have hcz37_3 : wr.cell? ⟨gb593, 3, none⟩ = some (.slice A0_3 l0_3.length c0_3) := (blk_cell BK593.out 3).trans rfl
                  have hcz37_4 : wr.cell? ⟨gb593, 4, none⟩ = some (.slice A0_4 l0_4.length c0_4) := (blk_cell BK593.out 4).trans rfl
                  have hfz37_0 := blk_frozen BK593.out 0
                  have hfz37_1 := blk_frozen BK593.out 1
                  have hfz37_2 := blk_frozen BK593.out 2
                  have hfz37_3 := blk_frozen BK593.out 3
                  have hfz37_4 := blk_frozen BK593.out 4
                  have p598 : 0 ≤ (x53_3 : Int) := of_decide_eq_true (by first | (with_reducible assumption) | assumption)
                  have q598 : x53_3 < (l0_3.length : Int) := of_decide_eq_true (by first | (with_reducible assumption) | assumption)
                  obtain ⟨ad598, e598, hx598_0⟩ := Kd.at_int HR0_3.out x53_3 p598 q598
                  cases e598
                  replace hx598_0 := (HB.out.cell (World.block_lt_of_cell? w _ hx598_0)).trans hx598_0
                  replace p598 := eq_true p598
                  replace q598 := eq_true q598
                  have p599 : 0 ≤ (x53_3 : Int) := of_decide_eq_true (by first | (with_reducible assumption) | assumption)
                  have q599 : x53_3 < (l0_3.length : Int) := of_decide_eq_true (by first | (with_reducible assumption) | assumption)
                  obtain ⟨ad599, e599, hx599_0⟩ := Kd.at_int HR0_3.out x53_3 p599 q599
                  obtain rfl : ad598 = ad599 := (by injection e599)
                  replace hx599_0 := (HB.out.cell (World.block_lt_of_cell? w _ hx599_0)).trans hx599_0
                  replace p599 := eq_true p599
                  replace q599 := eq_true q599
                  have p600 : 0 ≤ (x53_3 : Int) := of_decide_eq_true (by first | (with_reducible assumption) | assumption)
                  have q600 : x53_3 < (l0_2.length : Int) := of_decide_eq_true (by first | (with_reducible assumption) | assumption)
                  obtain ⟨ad600, e600, hx600_0⟩ := Kd.at_int HR0_2.out x53_3 p600 q600
                  cases e600
                  replace hx600_0 := (HB.out.cell (World.block_lt_of_cell? w _ hx600_0)).trans hx600_0
                  replace p600 := eq_true p600
                  replace q600 := eq_true q600
                  have p601 : 0 ≤ (x53_3 : Int) := of_decide_eq_true (by first | (with_reducible assumption) | assumption)
                  have q601 : x53_3 < (l0_2.length : Int) := of_decide_eq_true (by first | (with_reducible assumption) | assumption)
                  obtain ⟨ad601, e601, hx601_0⟩ := Kd.at_int HR0_2.out x53_3 p601 q601
                  obtain rfl : ad600 = ad601 := (by injection e601)
                  replace hx601_0 := (HB.out.cell (World.block_lt_of_cell? w _ hx601_0)).trans hx601_0
                  replace p601 := eq_true p601
                  replace q601 := eq_true q601
                  have p602 : 0 ≤ (x53_3 : Int) := of_decide_eq_true (by first | (with_reducible assumption) | assumption)
                  have q602 : x53_3 < (l0_4.length : Int) := of_decide_eq_true (by first | (with_reducible assumption) | assumption)
                  obtain ⟨ad602, e602, hx602_0⟩ := Kd.at_int HR0_4.out x53_3 p602 q602
                  cases e602
                  replace hx602_0 := (HB.out.cell (World.block_lt_of_cell? w _ hx602_0)).trans hx602_0
                  replace p602 := eq_true p602
                  replace q602 := eq_true q602
                  go_wp2
                  repeat (go_quiet (fail); try go_wp2)
                  go_ret
                  exact ⟨by first | rfl | (simp [errW_none, errW_some] <;> rfl) | (simp [*, errW_none, errW_some] <;> rfl), by repeat (first | (with_reducible first | exact HB.out | apply below_alloc | apply pw_below_drewN | apply below_drew1 | refine below_set ?_ GE593.out) | exact HB.out)⟩
                 ·rw [if_neg c36] at H
                  have c36b0 : decide ((rd l0_4 x53_3) < 0) = false := decide_eq_false c36
                  clear c36
                  by_cases c38 : (rd l0_4 x53_3) > 100
                  ·rw [if_pos c38] at H
                   have c38b0 : decide (100 < (rd l0_4 x53_3)) = true := decide_eq_true c38
                   clear c38
                   obtain rfl := Option.some.inj H
                   have hcz39_0 : wr.cell? ⟨gb593, 0, none⟩ = some (.slice A0_0 l0_0.length c0_0) := (blk_cell BK593.out 0).trans rfl
                   have hcz39_1 : wr.cell? ⟨gb593, 1, none⟩ = some (.slice A0_1 l0_1.length c0_1) := (blk_cell BK593.out 1).trans rfl
                   have hcz39_2 : wr.cell? ⟨gb593, 2, none⟩ = some (.slice A0_2 l0_2.length c0_2) := (blk_cell BK593.out 2).trans rfl
                   have hcz39_3 : wr.cell? ⟨gb593, 3, none⟩ = some (.slice A0_3 l0_3.length c0_3) := (blk_cell BK593.out 3).trans rfl
                   have hcz39_4 : wr.cell? ⟨gb593, 4, none⟩ = some (.slice A0_4 l0_4.length c0_4) := (blk_cell BK593.out 4).trans rfl
                   have hfz39_0 := blk_frozen BK593.out 0
                   have hfz39_1 := blk_frozen BK593.out 1
                   have hfz39_2 := blk_frozen BK593.out 2
                   have hfz39_3 := blk_frozen BK593.out 3
                   have hfz39_4 := blk_frozen BK593.out 4
                   have p598 : 0 ≤ (x53_3 : Int) := of_decide_eq_true (by first | (with_reducible assumption) | assumption)
                   have q598 : x53_3 < (l0_3.length : Int) := of_decide_eq_true (by first | (with_reducible assumption) | assumption)
                   obtain ⟨ad598, e598, hx598_0⟩ := Kd.at_int HR0_3.out x53_3 p598 q598
                   cases e598
                   replace hx598_0 := (HB.out.cell (World.block_lt_of_cell? w _ hx598_0)).trans hx598_0
                   replace p598 := eq_true p598
                   replace q598 := eq_true q598
                   have p599 : 0 ≤ (x53_3 : Int) := of_decide_eq_true (by first | (with_reducible assumption) | assumption)
                   have q599 : x53_3 < (l0_3.length : Int) := of_decide_eq_true (by first | (with_reducible assumption) | assumption)
                   obtain ⟨ad599, e599, hx599_0⟩ := Kd.at_int HR0_3.out x53_3 p599 q599
                   obtain rfl : ad598 = ad599 := (by injection e599)
                   replace hx599_0 := (HB.out.cell (World.block_lt_of_cell? w _ hx599_0)).trans hx599_0
                   replace p599 := eq_true p599
                   replace q599 := eq_true q599
                   have p600 : 0 ≤ (x53_3 : Int) := of_decide_eq_true (by first | (with_reducible assumption) | assumption)
                   have q600 : x53_3 < (l0_2.length : Int) := of_decide_eq_true (by first | (with_reducible assumption) | assumption)
                   obtain ⟨ad600, e600, hx600_0⟩ := Kd.at_int HR0_2.out x53_3 p600 q600
                   cases e600
                   replace hx600_0 := (HB.out.cell (World.block_lt_of_cell? w _ hx600_0)).trans hx600_0
                   replace p600 := eq_true p600
                   replace q600 := eq_true q600
                   have p601 : 0 ≤ (x53_3 : Int) := of_decide_eq_true (by first | (with_reducible assumption) | assumption)
                   have q601 : x53_3 < (l0_2.length : Int) := of_decide_eq_true (by first | (with_reducible assumption) | assumption)
                   obtain ⟨ad601, e601, hx601_0⟩ := Kd.at_int HR0_2.out x53_3 p601 q601
                   obtain rfl : ad600 = ad601 := (by injection e601)
                   replace hx601_0 := (HB.out.cell (World.block_lt_of_cell? w _ hx601_0)).trans hx601_0
                   replace p601 := eq_true p601
                   replace q601 := eq_true q601
                   have p602 : 0 ≤ (x53_3 : Int) := of_decide_eq_true (by first | (with_reducible assumption) | assumption)
                   have q602 : x53_3 < (l0_4.length : Int) := of_decide_eq_true (by first | (with_reducible assumption) | assumption)
                   obtain ⟨ad602, e602, hx602_0⟩ := Kd.at_int HR0_4.out x53_3 p602 q602
                   cases e602
                   replace hx602_0 := (HB.out.cell (World.block_lt_of_cell? w _ hx602_0)).trans hx602_0
                   replace p602 := eq_true p602
                   replace q602 := eq_true q602
                   have p603 : 0 ≤ (x53_3 : Int) := of_decide_eq_true (by first | (with_reducible assumption) | assumption)
                   have q603 : x53_3 < (l0_4.length : Int) := of_decide_eq_true (by first | (with_reducible assumption) | assumption)
                   obtain ⟨ad603, e603, hx603_0⟩ := Kd.at_int HR0_4.out x53_3 p603 q603
                   obtain rfl : ad602 = ad603 := (by injection e603)
                   replace hx603_0 := (HB.out.cell (World.block_lt_of_cell? w _ hx603_0)).trans hx603_0
                   replace p603 := eq_true p603
                   replace q603 := eq_true q603
                   go_wp2
                   repeat (go_quiet (fail); try go_wp2)
                   go_ret
                   exact ⟨by first | rfl | (simp [errW_none, errW_some] <;> rfl) | (simp [*, errW_none, errW_some] <;> rfl), by repeat (first | (with_reducible first | exact HB.out | apply below_alloc | apply pw_below_drewN | apply below_drew1 | refine below_set ?_ GE593.out) | exact HB.out)⟩
                  ·rw [if_neg c38] at H
                   have c38b0 : decide (100 < (rd l0_4 x53_3)) = false := decide_eq_false c38
                   clear c38
                   have H' := Ak H
                   clear H
                   have hcz40_0 : wr.cell? ⟨gb593, 0, none⟩ = some (.slice A0_0 l0_0.length c0_0) := (blk_cell BK593.out 0).trans rfl
                   have hcz40_1 : wr.cell? ⟨gb593, 1, none⟩ = some (.slice A0_1 l0_1.length c0_1) := (blk_cell BK593.out 1).trans rfl
                   have hcz40_2 : wr.cell? ⟨gb593, 2, none⟩ = some (.slice A0_2 l0_2.length c0_2) := (blk_cell BK593.out 2).trans rfl
                   have hcz40_3 : wr.cell? ⟨gb593, 3, none⟩ = some (.slice A0_3 l0_3.length c0_3) := (blk_cell BK593.out 3).trans rfl
                   have hcz40_4 : wr.cell? ⟨gb593, 4, none⟩ = some (.slice A0_4 l0_4.length c0_4) := (blk_cell BK593.out 4).trans rfl
                   have hfz40_0 := blk_frozen BK593.out 0
                   have hfz40_1 := blk_frozen BK593.out 1
                   have hfz40_2 := blk_frozen BK593.out 2
                   have hfz40_3 := blk_frozen BK593.out 3
                   have hfz40_4 := blk_frozen BK593.out 4
                   have p598 : 0 ≤ (x53_3 : Int) := of_decide_eq_true (by first | (with_reducible assumption) | assumption)
                   have q598 : x53_3 < (l0_3.length : Int) := of_decide_eq_true (by first | (with_reducible assumption) | assumption)
                   obtain ⟨ad598, e598, hx598_0⟩ := Kd.at_int HR0_3.out x53_3 p598 q598
                   cases e598
                   replace hx598_0 := (HB.out.cell (World.block_lt_of_cell? w _ hx598_0)).trans hx598_0
                   replace p598 := eq_true p598
                   replace q598 := eq_true q598
                   have p599 : 0 ≤ (x53_3 : Int) := of_decide_eq_true (by first | (with_reducible assumption) | assumption)
                   have q599 : x53_3 < (l0_3.length : Int) := of_decide_eq_true (by first | (with_reducible assumption) | assumption)
                   obtain ⟨ad599, e599, hx599_0⟩ := Kd.at_int HR0_3.out x53_3 p599 q599
                   obtain rfl : ad598 = ad599 := (by injection e599)
                   replace hx599_0 := (HB.out.cell (World.block_lt_of_cell? w _ hx599_0)).trans hx599_0
                   replace p599 := eq_true p599
                   replace q599 := eq_true q599
                   have p600 : 0 ≤ (x53_3 : Int) := of_decide_eq_true (by first | (with_reducible assumption) | assumption)
                   have q600 : x53_3 < (l0_2.length : Int) := of_decide_eq_true (by first | (with_reducible assumption) | assumption)
                   obtain ⟨ad600, e600, hx600_0⟩ := Kd.at_int HR0_2.out x53_3 p600 q600
                   cases e600
                   replace hx600_0 := (HB.out.cell (World.block_lt_of_cell? w _ hx600_0)).trans hx600_0
                   replace p600 := eq_true p600
                   replace q600 := eq_true q600
                   have p601 : 0 ≤ (x53_3 : Int) := of_decide_eq_true (by first | (with_reducible assumption) | assumption)
                   have q601 : x53_3 < (l0_2.length : Int) := of_decide_eq_true (by first | (with_reducible assumption) | assumption)
                   obtain ⟨ad601, e601, hx601_0⟩ := Kd.at_int HR0_2.out x53_3 p601 q601
                   obtain rfl : ad600 = ad601 := (by injection e601)
                   replace hx601_0 := (HB.out.cell (World.block_lt_of_cell? w _ hx601_0)).trans hx601_0
                   replace p601 := eq_true p601
                   replace q601 := eq_true q601
                   have p602 : 0 ≤ (x53_3 : Int) := of_decide_eq_true (by first | (with_reducible assumption) | assumption)
                   have q602 : x53_3 < (l0_4.length : Int) := of_decide_eq_true (by first | (with_reducible assumption) | assumption)
                   obtain ⟨ad602, e602, hx602_0⟩ := Kd.at_int HR0_4.out x53_3 p602 q602
                   cases e602
                   replace hx602_0 := (HB.out.cell (World.block_lt_of_cell? w _ hx602_0)).trans hx602_0
                   replace p602 := eq_true p602
                   replace q602 := eq_true q602
                   have p603 : 0 ≤ (x53_3 : Int) := of_decide_eq_true (by first | (with_reducible assumption) | assumption)
                   have q603 : x53_3 < (l0_4.length : Int) := of_decide_eq_true (by first | (with_reducible assumption) | assumption)
                   obtain ⟨ad603, e603, hx603_0⟩ := Kd.at_int HR0_4.out x53_3 p603 q603
                   obtain rfl : ad602 = ad603 := (by injection e603)
                   replace hx603_0 := (HB.out.cell (World.block_lt_of_cell? w _ hx603_0)).trans hx603_0
                   replace p603 := eq_true p603
                   replace q603 := eq_true q603
                   go_wp2
                   repeat (go_quiet (fail); try go_wp2)
                   go_roundg k3
                   case measure => have := HJ1.out; have := HK2.out; have := HK3.out; omega
                   case rel => exact ⟨(wrap64 (x53_3 + 1)), (by first | rfl | (simp; done) | (simp [*]; done)), H', ⟨by have := HJ1.out; have := HK2.out; have := HK3.out; omega⟩, ⟨by (with_reducible repeat (first | refine blk_drewN ?_ _ | refine blk_drew ?_ | refine blk_alloc ?_ _)); exact BK593.out⟩, ⟨by repeat (first | (with_reducible first | exact HB.out | apply below_alloc | apply pw_below_drewN | apply below_drew1 | refine below_set ?_ GE593.out) | exact HB.out)⟩⟩
                ·rw [if_neg c35] at H
                 exact absurd H (by simp)
             ·rw [if_neg c30] at H
              exact absurd H (by simp)
           ·rw [if_neg c27] at H
            exact absurd H (by simp)
          ·rw [if_neg c26] at H
           exact absurd H (by simp)
         ·rw [if_neg c25] at H
          have c25b0 : decide (x53_3 < 3) = false := decide_eq_false c25
          clear c25
          obtain rfl := Option.some.inj H
          go_wp2
          repeat (go_quiet (fail); try go_wp2)
          go_ret
          exact ⟨by first | rfl | (simp [errW_none, errW_some] <;> rfl) | (simp [*, errW_none, errW_some] <;> rfl), by repeat (first | (with_reducible first | exact HB.out | apply below_alloc | apply pw_below_drewN | apply below_drew1 | refine below_set ?_ GE593.out) | exact HB.out)⟩
end Go.Proofs.Ytmekkapacbdbeaa.P
namespace Go.Proofs.Ytmekkapacbdbeaa.P
open Go.RowKit Go.Proofs.YtmekkapacbdbeaaW.PrintWords
def byteOk (c : Int) : Bool := decide (c = 46) || (decide (97 ≤ c) && decide (c ≤ 122)) || (decide (48 ≤ c) && decide (c ≤ 57))
def bytesOk (s : ByteArray) : Bool := allUp (fun j => byteOk (bt s (j : Int))) 0 s.size
def textOk (s : ByteArray) : Bool := bytesOk s && decide (s.size ≤ 48)
theorem spec_l2Byte_eq (c : Int) : spec_l2Byte.f c = some (byteOk c) := by
 unfold spec_l2Byte.f byteOk
 by_cases h1 : c = 46
 ·subst h1; rfl
 ·by_cases h2 : c ≥ 97 <;> by_cases h3 : c ≤ 122 <;> by_cases h4 : c ≥ 48 <;> by_cases h5 : c ≤ 57 <;> simp [h1, h2, h3, h4, h5] <;> omega
theorem spec_TextOk_ev {s : ByteArray} (hs : s.size ≤ 9223372036854775807) : Ev (fun k => spec_TextOk.f k s) (textOk s) := by
 have h := loop_all (n := s.size) (G := fun k i => spec_TextOk.l0 k s (i : Int)) (E := fun j => byteOk (bt s (j : Int))) (z := decide (s.size ≤ 48)) (fun k i hi => by
  show spec_TextOk.l0 (k + 1) s (i : Int) = _
  rw [spec_TextOk.l0, if_pos (by omega), if_pos (by omega), spec_l2Byte_eq, Option.bind_some, w64s hi hs]) (fun k => by
  show spec_TextOk.l0 (k + 1) s (s.size : Int) = _
  rw [spec_TextOk.l0, if_neg (by omega)]
  simp only [Option.some.injEq, decide_eq_decide]
  omega) s.size 0 (by omega)
 exact h
theorem impl_TextOk_ev {s : ByteArray} (hs : s.size ≤ 9223372036854775807) : Ev (fun k => impl_TextOk.f k s) (textOk s) := by
 have h := loop_all (n := s.size) (G := fun k i => impl_TextOk.l0 k s (s.size : Int) (i : Int)) (E := fun j => byteOk (bt s (j : Int))) (z := decide (s.size ≤ 48)) (fun k i hi => by
  show impl_TextOk.l0 (k + 1) s (s.size : Int) (i : Int) = _
  rw [impl_TextOk.l0, if_pos (by omega), if_pos (by omega), if_pos (by omega), w64s hi hs]
  generalize bt s (i : Int) = c
  unfold byteOk
  by_cases h1 : c = 46 <;> by_cases h2 : c < 97 <;> by_cases h3 : c > 122 <;> by_cases h4 : c < 48 <;> by_cases h5 : c > 57 <;> simp [h1, h2, h3, h4, h5] <;> first | omega | (have h6 : ¬ (97 ≤ c) := by omega) <;> simp [*] <;> omega | skip) (fun k => by
  show impl_TextOk.l0 (k + 1) s (s.size : Int) (s.size : Int) = _
  rw [impl_TextOk.l0, if_neg (by omega)]
  simp only [Option.some.injEq, decide_eq_decide]
  omega) s.size 0 (by omega)
 exact h
def textsOk (l : List ByteArray) : Bool := allUp (fun j => textOk (l.getD j ByteArray.empty)) 0 l.length && decide (l.length = 3)
def numOk (s : St) (j : Nat) : Bool := decide (0 ≤ s.slast.getD j 0) && (decide (s.slast.getD j 0 ≤ s.last.getD j 0) && (decide (s.last.getD j 0 ≤ 1000) && (decide (0 ≤ s.floors.getD j 0) && decide (s.floors.getD j 0 ≤ 100))))
def lensOk (s : St) : Bool := decide (s.last.length = 3) && (decide (s.slast.length = 3) && decide (s.floors.length = 3))
def stOk (s : St) : Bool := textsOk s.now && (textsOk s.sure && (lensOk s && allUp (numOk s) 0 3))
theorem spec_l5Texts_ev {l : List ByteArray} (hl : l.length ≤ 9223372036854775807) (hz : ∀ x ∈ l, x.size ≤ 9223372036854775807) : Ev (fun k => spec_l5Texts.f k l) (textsOk l) := by
 have h := loop_ev (n := l.length) (G := fun k i => spec_l5Texts.l0 k l (i : Int)) (E := fun j => textOk (l.getD j ByteArray.empty)) (z := decide (l.length = 3)) (fun i hi z' hz' => by
  have hx : l.getD i ByteArray.empty = l[i] := by simp [List.getD_eq_getElem?_getD, hi]
  refine Ev.step (f := fun k => (spec_TextOk.f k l[i]).bind fun t => if t = true then spec_l5Texts.l0 k l ((i + 1 : Nat) : Int) else some false) (fun k => ?_) ?_
  ·show spec_l5Texts.l0 (k + 1) l (i : Int) = _
   rw [spec_l5Texts.l0, if_pos (by omega), if_pos (by omega), rdOf_nat hi, w64s hi hl]
  ·refine Ev.bind (spec_TextOk_ev (hz _ (List.getElem_mem hi))) ?_
   rw [hx]
   cases textOk l[i]
   ·exact Ev.now _
   ·exact hz') (Ev.step (f := fun _ => some (decide (l.length = 3))) (fun k => by
  show spec_l5Texts.l0 (k + 1) l (l.length : Int) = _
  rw [spec_l5Texts.l0, if_neg (by omega)]
  simp only [Option.some.injEq]
  by_cases h3 : l.length = 3
  ·rw [h3]; rfl
  ·rw [decide_eq_false h3]
   simp only [beq_eq_false_iff_ne, ne_eq]
   omega) (Ev.now _)) l.length 0 (by omega)
 exact h
theorem rd_getD (l : List Int) (j : Nat) : rd l (j : Int) = l.getD j 0 := by simp [rd]
theorem spec_nums_ev {s : St} (h2 : s.last.length = 3) (h3 : s.slast.length = 3) (h4 : s.floors.length = 3) : Ev (fun k => spec_StoreOk.l0 k 0 s.now s.sure s.last s.slast s.floors) (allUp (numOk s) 0 3) := by
 have h := loop_all (n := 3) (G := fun k i => spec_StoreOk.l0 k (i : Int) s.now s.sure s.last s.slast s.floors) (E := numOk s) (z := true) (fun k i hi => by
  show spec_StoreOk.l0 (k + 1) (i : Int) _ _ _ _ _ = _
  rw [spec_StoreOk.l0, if_pos (by omega), if_pos (by omega), if_pos (by omega), w64s hi (by omega), rd_getD, rd_getD, rd_getD]
  unfold numOk
  generalize s.slast.getD i 0 = x
  generalize s.last.getD i 0 = y
  generalize s.floors.getD i 0 = f
  by_cases g1 : x < 0
  ·rw [if_pos g1, decide_eq_false (show ¬ 0 ≤ x by omega), Bool.false_and, if_neg (by decide)]
  rw [if_neg g1, if_pos (by omega), decide_eq_true (show 0 ≤ x by omega), Bool.true_and]
  by_cases g2 : x > y
  ·rw [if_pos g2, decide_eq_false (show ¬ x ≤ y by omega), Bool.false_and, if_neg (by decide)]
  rw [if_neg g2, decide_eq_true (show x ≤ y by omega), Bool.true_and]
  by_cases g3 : y > 1000
  ·rw [if_pos g3, decide_eq_false (show ¬ y ≤ 1000 by omega), Bool.false_and, if_neg (by decide)]
  rw [if_neg g3, if_pos (by omega), decide_eq_true (show y ≤ 1000 by omega), Bool.true_and]
  by_cases g4 : f < 0
  ·rw [if_pos g4, decide_eq_false (show ¬ 0 ≤ f by omega), Bool.false_and, if_neg (by decide)]
  rw [if_neg g4, decide_eq_true (show 0 ≤ f by omega), Bool.true_and]
  by_cases g5 : f > 100
  ·rw [if_pos g5, decide_eq_false (show ¬ f ≤ 100 by omega), if_neg (by decide)]
  rw [if_neg g5, decide_eq_true (show f ≤ 100 by omega), if_pos rfl]) (fun k => by
  show spec_StoreOk.l0 (k + 1) ((3 : Nat) : Int) _ _ _ _ _ = _
  rw [spec_StoreOk.l0, if_neg (by omega)]) 3 0 (by omega)
 rw [Bool.and_true] at h
 exact h
theorem impl_nums_ev {s : St} (h2 : s.last.length = 3) (h3 : s.slast.length = 3) (h4 : s.floors.length = 3) : Ev (fun k => impl_StoreOk.l1 k 0 s.now s.sure s.last s.slast s.floors) (allUp (numOk s) 0 3) := by
 have h := loop_all (n := 3) (G := fun k i => impl_StoreOk.l1 k (i : Int) s.now s.sure s.last s.slast s.floors) (E := numOk s) (z := true) (fun k i hi => by
  show impl_StoreOk.l1 (k + 1) (i : Int) _ _ _ _ _ = _
  rw [impl_StoreOk.l1, if_pos (by omega), if_pos (by omega), if_pos (by omega), w64s hi (by omega), rd_getD, rd_getD, rd_getD]
  unfold numOk
  generalize s.slast.getD i 0 = x
  generalize s.last.getD i 0 = y
  generalize s.floors.getD i 0 = f
  by_cases g1 : x < 0
  ·rw [if_pos g1, decide_eq_false (show ¬ 0 ≤ x by omega), Bool.false_and, if_neg (by decide)]
  rw [if_neg g1, if_pos (by omega), decide_eq_true (show 0 ≤ x by omega), Bool.true_and]
  by_cases g2 : x > y
  ·rw [if_pos g2, decide_eq_false (show ¬ x ≤ y by omega), Bool.false_and, if_neg (by decide)]
  rw [if_neg g2, decide_eq_true (show x ≤ y by omega), Bool.true_and]
  by_cases g3 : y > 1000
  ·rw [if_pos g3, decide_eq_false (show ¬ y ≤ 1000 by omega), Bool.false_and, if_neg (by decide)]
  rw [if_neg g3, if_pos (by omega), decide_eq_true (show y ≤ 1000 by omega), Bool.true_and]
  by_cases g4 : f < 0
  ·rw [if_pos g4, decide_eq_false (show ¬ 0 ≤ f by omega), Bool.false_and, if_neg (by decide)]
  rw [if_neg g4, decide_eq_true (show 0 ≤ f by omega), Bool.true_and]
  by_cases g5 : f > 100
  ·rw [if_pos g5, decide_eq_false (show ¬ f ≤ 100 by omega), if_neg (by decide)]
  rw [if_neg g5, decide_eq_true (show f ≤ 100 by omega), if_pos rfl]) (fun k => by
  show impl_StoreOk.l1 (k + 1) ((3 : Nat) : Int) _ _ _ _ _ = _
  rw [impl_StoreOk.l1, if_neg (by omega)]) 3 0 (by omega)
 rw [Bool.and_true] at h
 exact h
theorem spec_StoreOk_ev {s : St} (hl : s.now.length ≤ 9223372036854775807 ∧ s.sure.length ≤ 9223372036854775807) (hz : Sized s) : Ev (fun k => spec_StoreOk.f k s.now s.sure s.last s.slast s.floors) (stOk s) := by
 unfold spec_StoreOk.f stOk
 have hj : ∀ b : Bool, (b = false → Ev (fun k => spec_StoreOk.l0 k 0 s.now s.sure s.last s.slast s.floors) (allUp (numOk s) 0 3)) → Ev (fun k => spec_StoreOk.j0 k b s.now s.sure s.last s.slast s.floors) (!b && allUp (numOk s) 0 3) := by
  intro b hb
  cases b
  ·exact Ev.step (fun k => by rw [spec_StoreOk.j0, if_neg (by decide)]) (hb rfl)
  ·exact Ev.step (f := fun _ => some false) (fun k => by rw [spec_StoreOk.j0, if_pos rfl]) (Ev.now _)
 refine Ev.bind (spec_l5Texts_ev hl.1 hz.1) ?_
 cases textsOk s.now
 ·exact hj true (fun h => by cases h)
 refine Ev.bind (spec_l5Texts_ev hl.2 hz.2) ?_
 cases textsOk s.sure
 ·exact hj true (fun h => by cases h)
 simp only [if_true, Bool.true_and]
 unfold lensOk
 by_cases h2 : s.last.length = 3
 ·by_cases h3 : s.slast.length = 3
  ·refine Ev.congr (f := fun k => spec_StoreOk.j0 k ((s.floors.length : Int) != 3) s.now s.sure s.last s.slast s.floors) (fun k => by rw [if_pos (by omega), if_pos (by omega)]) ?_
   by_cases h4 : s.floors.length = 3
   ·have e : ((s.floors.length : Int) != 3) = false := by rw [h4]; rfl
    rw [e, decide_eq_true h2, decide_eq_true h3, decide_eq_true h4]
    exact hj false (fun _ => spec_nums_ev h2 h3 h4)
   ·have e : ((s.floors.length : Int) != 3) = true := by simp only [bne_iff_ne, ne_eq]; omega
    rw [e, decide_eq_false h4, Bool.and_false, Bool.and_false, Bool.false_and]
    exact hj true (fun h => by cases h)
  ·refine Ev.congr (f := fun k => spec_StoreOk.j0 k true s.now s.sure s.last s.slast s.floors) (fun k => by rw [if_pos (by omega), if_neg (by omega)]) ?_
   rw [decide_eq_false h3, Bool.false_and, Bool.and_false, Bool.false_and]
   exact hj true (fun h => by cases h)
 ·refine Ev.congr (f := fun k => spec_StoreOk.j0 k true s.now s.sure s.last s.slast s.floors) (fun k => by rw [if_neg (by omega)]) ?_
  rw [decide_eq_false h2, Bool.false_and, Bool.false_and]
  exact hj true (fun h => by cases h)
theorem impl_texts_ev {s : St} {z : Bool} (h0 : s.now.length = 3) (h1 : s.sure.length = 3) (hz : Sized s) (hn : Ev (fun k => impl_StoreOk.l1 k 0 s.now s.sure s.last s.slast s.floors) z) :
  Ev (fun k => impl_StoreOk.l0 k 0 s.now s.sure s.last s.slast s.floors) (allUp (fun j => textOk (s.now.getD j ByteArray.empty) && textOk (s.sure.getD j ByteArray.empty)) 0 3 && z) := by
 have h := loop_ev (n := 3) (G := fun k i => impl_StoreOk.l0 k (i : Int) s.now s.sure s.last s.slast s.floors) (E := fun j => textOk (s.now.getD j ByteArray.empty) && textOk (s.sure.getD j ByteArray.empty)) (z := z) (fun i hi z' hz' => by
  have hx : s.now.getD i ByteArray.empty = s.now[i]'(by omega) := by simp [List.getD_eq_getElem?_getD, h0, hi]
  have hy : s.sure.getD i ByteArray.empty = s.sure[i]'(by omega) := by simp [List.getD_eq_getElem?_getD, h1, hi]
  refine Ev.step (f := fun k => (impl_TextOk.f k (s.now[i]'(by omega))).bind fun t => if t = true then (impl_TextOk.f k (s.sure[i]'(by omega))).bind fun t2 => if t2 = true then impl_StoreOk.l0 k ((i + 1 : Nat) : Int) s.now s.sure s.last s.slast s.floors else some false else some false) (fun k => ?_) ?_
  ·show impl_StoreOk.l0 (k + 1) (i : Int) _ _ _ _ _ = _
   rw [impl_StoreOk.l0, if_pos (by omega), if_pos (by omega), if_pos (by omega), if_pos (by omega), rdOf_nat (l := s.now) (by omega), rdOf_nat (l := s.sure) (by omega), w64s hi (by omega)]
  ·refine Ev.bind (impl_TextOk_ev (hz.1 _ (List.getElem_mem (by omega)))) ?_
   rw [hx, hy]
   cases textOk (s.now[i]'(by omega))
   ·exact Ev.now _
   ·simp only [if_true, Bool.true_and]
    refine Ev.bind (impl_TextOk_ev (hz.2 _ (List.getElem_mem (by omega)))) ?_
    cases textOk (s.sure[i]'(by omega))
    ·exact Ev.now _
    ·exact hz') (Ev.step (f := fun k => impl_StoreOk.l1 k 0 s.now s.sure s.last s.slast s.floors) (fun k => by
  show impl_StoreOk.l0 (k + 1) ((3 : Nat) : Int) _ _ _ _ _ = _
  rw [impl_StoreOk.l0, if_neg (by omega)]) hn) 3 0 (by omega)
 exact h
theorem allUp_and {E F : Nat → Bool} : ∀ {d i : Nat}, allUp (fun j => E j && F j) i d = (allUp E i d && allUp F i d)
 | 0, _ => rfl
 | d + 1, i => by
  simp only [allUp, allUp_and]
  cases E i <;> cases F i <;> simp
theorem impl_StoreOk_ev {s : St} (hz : Sized s) : Ev (fun k => impl_StoreOk.f k s.now s.sure s.last s.slast s.floors) (stOk s) := by
 have no : ∀ {z : Bool}, z = false → Ev (fun k => impl_StoreOk.j0 k true s.now s.sure s.last s.slast s.floors) z := by
  rintro z rfl
  exact Ev.step (f := fun _ => some false) (fun k => by rw [impl_StoreOk.j0, if_pos rfl]) (Ev.now _)
 unfold impl_StoreOk.f
 by_cases h0 : s.now.length = 3
 case neg =>
  refine Ev.congr (fun k => by rw [if_neg (by omega)]) (no ?_)
  simp [stOk, textsOk, h0]
 refine Ev.congr (fun k => by rw [if_pos (by omega)]) ?_
 by_cases h1 : s.sure.length = 3
 case neg =>
  refine Ev.congr (fun k => by rw [if_neg (by omega)]) (no ?_)
  simp [stOk, textsOk, h1]
 refine Ev.congr (fun k => by rw [if_pos (by omega)]) ?_
 by_cases h2 : s.last.length = 3
 case neg =>
  refine Ev.congr (fun k => by rw [if_neg (by omega)]) (no ?_)
  simp [stOk, lensOk, h2]
 refine Ev.congr (fun k => by rw [if_pos (by omega)]) ?_
 by_cases h3 : s.slast.length = 3
 case neg =>
  refine Ev.congr (fun k => by rw [if_neg (by omega)]) (no ?_)
  simp [stOk, lensOk, h3]
 refine Ev.congr (fun k => by rw [if_pos (by omega)]) ?_
 by_cases h4 : s.floors.length = 3
 case neg =>
  have e : ((s.floors.length : Int) != 3) = true := by simp only [bne_iff_ne, ne_eq]; omega
  rw [e]
  refine no ?_
  simp [stOk, lensOk, h4]
 have e : ((s.floors.length : Int) != 3) = false := by rw [h4]; rfl
 rw [e]
 refine Ev.step (f := fun k => impl_StoreOk.l0 k 0 s.now s.sure s.last s.slast s.floors) (fun k => by rw [impl_StoreOk.j0, if_neg (by decide)]) ?_
 have h := impl_texts_ev h0 h1 hz (impl_nums_ev h2 h3 h4)
 rw [allUp_and] at h
 simp only [stOk, textsOk, lensOk, h0, h1, h2, h3, h4, decide_true, Bool.and_true, Bool.true_and]
 rw [Bool.and_assoc] at h
 exact h
theorem spec_StoreOk_c {w : World} {v : Value} {s : St} (hv : StC w v s) (hz : Sized s) :
  Calls Try.prog 19 #[v] w fun e w' => e = .returned (.bool (stOk s)) ∧ Below w.heap.size w w' := by
 obtain ⟨k, hk⟩ := (spec_StoreOk_ev ⟨hv.lens.1, hv.lens.2.1⟩ hz).rounds
 obtain ⟨A0, c0, A1, c1, A2, c2, A3, c3, A4, c4, rfl, g0, g1, g2, g3, g4⟩ := hv
 exact spec_StoreOk.calls k A0 c0 s.now A1 c1 s.sure A2 c2 s.last A3 c3 s.slast A4 c4 s.floors _ w g0.1 g0.2 g1.1 g1.2 g2.1 g2.2 g3.1 g3.2 g4.1 g4.2 hk
theorem spec_StoreOk_q {w : World} {v : Value} {s : St} {q : Bool} (hv : StC w v s) (hz : Sized s) (hq : stOk s = q) :
  Calls Try.prog 19 #[v] w fun e w' => e = .returned (.bool q) ∧ Below w.heap.size w w' := hq ▸ spec_StoreOk_c hv hz
end Go.Proofs.Ytmekkapacbdbeaa.P
namespace Go.Proofs.Ytmekkapacbdbeaa.P
open Go.RowKit Go.Proofs.YtmekkapacbdbeaaW.PrintWords Go.Proofs.YtmekkapacbdbeaaW.PrintLast Go.Proofs.YtmekkapacbdbeaaW.PrintMore
attribute [local go_sem] max2_int min2_int max_two min_two max_three min_three max_four min_four   
set_option linter.unusedVariables false
set_option linter.unusedSimpArgs false
def spec_StoreNew.f  : Option (List ByteArray × List ByteArray × List Int × List Int × List Int) := if 3 ≤ 17592186044416 then (if 3 ≤ 35184372088832 then (some ((List.replicate 3 (⟨#[]⟩ : ByteArray)), (List.replicate 3 (⟨#[]⟩ : ByteArray)), (List.replicate 3 0), (List.replicate 3 0), (List.replicate 3 0))) else (none)) else (none)
def spec_StoreNew.T1 : Bool × List (List Nat × List Nat) := (true, [([], []), ([], []), ([], []), ([], []), ([], []), ([0, 1, 2, 3, 4], [0, 1, 2, 3, 4]), ([5, 0, 1, 2, 3, 4, 5], [5])])
def spec_StoreNew.B1 : List Nat := [0, 0, 0, 0, 0, 31, 63]
theorem spec_StoreNew.tab1 : rtab .any (opsOf Try.f29 1) = spec_StoreNew.T1 := by kernel_rfl
theorem spec_StoreNew.bits1 : waitsOk spec_StoreNew.T1.2 spec_StoreNew.B1 = true := by kernel_rfl
end Go.Proofs.Ytmekkapacbdbeaa.P
namespace Go.Proofs.Ytmekkapacbdbeaa.P
open Go.RowKit Go.Proofs.YtmekkapacbdbeaaW.PrintWords Go.Proofs.YtmekkapacbdbeaaW.PrintLast Go.Proofs.YtmekkapacbdbeaaW.PrintMore
set_option linter.unusedVariables false
set_option linter.unusedSimpArgs false
set_option maxHeartbeats 8000000 in
set_option maxRecDepth 100000 in
theorem spec_StoreNew.calls  (r1 : List ByteArray) (r2 : List ByteArray) (r3 : List Int) (r4 : List Int) (r5 : List Int) (w : World) (h : spec_StoreNew.f  = some (r1, r2, r3, r4, r5)) :
  Calls Try.prog 29 #[] w fun e w' => ∃ v0_ v1_ v2_ v3_ v4_ : Value, e = .returned (.agg #[v0_, v1_, v2_, v3_, v4_]) ∧ Kd.R Kd.string 9 w' w.heap.size (fun k_ => some k_ ≠ (v1_ : Value).ownBlock) v0_ r1 ∧ Kd.R Kd.string 9 w' w.heap.size (fun k_ => some k_ ≠ (v0_ : Value).ownBlock) v1_ r2 ∧ Kd.R (Kd.int .i64) 3 w' w.heap.size (fun k_ => some k_ ≠ (v3_ : Value).ownBlock ∧ some k_ ≠ (v4_ : Value).ownBlock) v2_ r3 ∧ Kd.R (Kd.int .i64) 3 w' w.heap.size (fun k_ => some k_ ≠ (v2_ : Value).ownBlock ∧ some k_ ≠ (v4_ : Value).ownBlock) v3_ r4 ∧ Kd.R (Kd.int .i64) 3 w' w.heap.size (fun k_ => some k_ ≠ (v2_ : Value).ownBlock ∧ some k_ ≠ (v3_ : Value).ownBlock) v4_ r5 ∧ Below w.heap.size w w' := by
 unfold spec_StoreNew.f at h
 rw [if_pos (by decide), if_pos (by decide)] at h
 simp only [Option.some.injEq, Prod.mk.injEq] at h
 obtain ⟨rfl, rfl, rfl, rfl, rfl⟩ := h
 have hu := Try.underlying26
 go_enter Try.func29, Try.ntmps29
 go_wp2_with (first | ((with_reducible refine gate_dst (N := 0) rfl ?_); refine ev_box ?hg (N := 0) ?hd (cs := #[.slice none 0 0, .slice none 0 0, .slice none 0 0, .slice none 0 0, .slice none 0 0]) (t := 26) ?hr ?_; (case hd => rfl); (case hg => rfl); (case hr => first | (go_simp; done) | (go_simp; rfl)); intro g2 W1 HG2 BK2 HB2))
 have HBw := HB2
 refine start_ (n := 7) (S := fun w' => True) (ds := []) #[false, false, false, false, false, false, false] (by kernel_rfl) rfl rfl trivial (fun hHeld => ?_)
 clear hHeld
 refine with_tabW spec_StoreNew.tab1 spec_StoreNew.bits1 (fun HT_ HW_ => ?_)
 have BK2' : Aside0 (Bk W1.drew g2 #[.slice none 0 0, .slice none 0 0, .slice none 0 0, .slice none 0 0, .slice none 0 0] 26) := ⟨BK2.out⟩
 have HBd := Ak (below_drew1 HBw.out)
 have HGE : Aside0 (w.heap.size ≤ g2) := ⟨by have h1 := HG2.out; omega⟩
 generalize W1.drew = w4 at BK2' HBd ⊢
 clear HBw BK2 HB2
 refine inv_at [0, 1, 2, 3, 4, 5, 6] (fun a0_ b a w' => ∃ (v0 : Value) (v1 : Value) (v2 : Value) (v3 : Value) (v4 : Value) (m : Value) (D : Nat → Nat → Prop), a = putSel a0_ b [(0, 1, v0), (1, 2, v1), (2, 3, v2), (3, 4, v3), (4, 5, v4), (5, 6, m)] ∧ Below w.heap.size w w' ∧ (b 6 = false → Bk w' g2 #[.slice none 0 0, .slice none 0 0, .slice none 0 0, .slice none 0 0, .slice none 0 0] 26) ∧ (b 6 = true → Bk w' g2 #[v0, v1, v2, v3, v4] 26) ∧ (b 5 = true → m = .agg #[v0, v1, v2, v3, v4]) ∧ (∀ i j k, D i k → D j k → i = j) ∧ (∀ i k, D i k → k < w'.heap.size) ∧ (b 0 = true → Kd.R Kd.string 9 w' w.heap.size (D 0) v0 (List.replicate 3 (⟨#[]⟩ : ByteArray))) ∧ (b 1 = true → Kd.R Kd.string 9 w' w.heap.size (D 1) v1 (List.replicate 3 (⟨#[]⟩ : ByteArray))) ∧ (b 2 = true → Kd.R (Kd.int .i64) 3 w' w.heap.size (D 2) v2 (List.replicate 3 0)) ∧ (b 3 = true → Kd.R (Kd.int .i64) 3 w' w.heap.size (D 3) v3 (List.replicate 3 0)) ∧ (b 4 = true → Kd.R (Kd.int .i64) 3 w' w.heap.size (D 4) v4 (List.replicate 3 0))) HT_.out HW_.out (by kernel_rfl) (by kernel_rfl) ?_ ?_ ?_
 ·exact ⟨.bool false, .bool false, .bool false, .bool false, .bool false, .bool false, fun _ _ => False, by simp only [putSel, Bool.false_eq_true, if_false], HBd.out, fun _ => BK2'.out, fun h_ => absurd h_ (by decide), fun h_ => absurd h_ (by decide), fun _ _ _ h_ => h_.elim, fun _ _ h_ => h_.elim, fun h_ => absurd h_ (by decide), fun h_ => absurd h_ (by decide), fun h_ => absurd h_ (by decide), fun h_ => absurd h_ (by decide), fun h_ => absurd h_ (by decide)⟩
 ·clear BK2' HBd
  refine steps_cons ?_ ?_
  ·rintro b a w' ⟨v0, v1, v2, v3, v4, m, D, ha, HB, Qz, Qe, Qm, QD, QL, QV0, QV1, QV2, QV3, QV4⟩ hb_ hon hoff
   refine ⟨_, rfl, fun K hK => ?_⟩
   refine Kd.R_make_step Kd.string (w0 := w') w'.heap.size 9 (by rfl) (N := 1) rfl 23 _ _ rfl 3 rfl rfl Try.underlying23 (.string ⟨#[]⟩) 16 info9 rfl (by decide) (by omega) (⟨#[]⟩ : ByteArray) (ok := fun k => k = w'.heap.size ∨ w'.heap.size ≤ k) (okp := fun _ => False) rfl (fun _ hk => hk.elim) (.inl rfl) (by omega) (by omega) (Below.refl _ _) (Nat.le_refl _) ?_
   intro x w5 ho hb5 hg5 hn5
   have hfit := HB.size
   obtain ⟨D', hDi, hDj⟩ : ∃ D' : Nat → Nat → Prop, (∀ k, D' 0 k ↔ w'.heap.size ≤ k ∧ k < w5.heap.size) ∧ ∀ j, j ≠ 0 → ∀ k, D' j k ↔ D j k := ⟨fun j k => if j = 0 then w'.heap.size ≤ k ∧ k < w5.heap.size else D j k, fun k => by simp, fun j hj k => by simp [hj]⟩
   have hold : ∀ j, j ≠ 0 → ∀ k, D j k → D' j k := fun j hj k hk => (hDj j hj k).2 hk
   have hDD : ∀ i j k, D' i k → D' j k → i = j := newD QD QL hDi hDj
   have hLL : ∀ i k, D' i k → k < w5.heap.size := newL QL hDi hDj hb5.size
   have hnew := R_raise (b' := w.heap.size) (ok' := D' 0) ho (fun k hk => ⟨by have := Kd.R_base ho k hk; omega, (hDi k).2 ⟨Kd.R_base ho k hk, Kd.R_lt ho k hk⟩⟩)
   refine hK.out _ _ ⟨x, v1, v2, v3, v4, m, D', (by rw [ha]; exact putSel_upk 0 hb_ rfl rfl rfl), below_step HB hb5, fun h_ => Bk.below (Qz h_) hb5, fun h0_ => absurd ((hoff 6 (by kernel_rfl)).symm.trans h0_) (by decide), fun h0_ => absurd ((hoff 5 (by kernel_rfl)).symm.trans h0_) (by decide), hDD, hLL, fun _ => hnew, fun h_ => Kd.R_mono (Kd.R_below (QV1 h_) hb5) (fun k hk => hold 1 (by decide) k hk), fun h_ => Kd.R_mono (Kd.R_below (QV2 h_) hb5) (fun k hk => hold 2 (by decide) k hk), fun h_ => Kd.R_mono (Kd.R_below (QV3 h_) hb5) (fun k hk => hold 3 (by decide) k hk), fun h_ => Kd.R_mono (Kd.R_below (QV4 h_) hb5) (fun k hk => hold 4 (by decide) k hk)⟩
  refine steps_cons ?_ ?_
  ·rintro b a w' ⟨v0, v1, v2, v3, v4, m, D, ha, HB, Qz, Qe, Qm, QD, QL, QV0, QV1, QV2, QV3, QV4⟩ hb_ hon hoff
   refine ⟨_, rfl, fun K hK => ?_⟩
   refine Kd.R_make_step Kd.string (w0 := w') w'.heap.size 9 (by rfl) (N := 2) rfl 23 _ _ rfl 3 rfl rfl Try.underlying23 (.string ⟨#[]⟩) 16 info9 rfl (by decide) (by omega) (⟨#[]⟩ : ByteArray) (ok := fun k => k = w'.heap.size ∨ w'.heap.size ≤ k) (okp := fun _ => False) rfl (fun _ hk => hk.elim) (.inl rfl) (by omega) (by omega) (Below.refl _ _) (Nat.le_refl _) ?_
   intro x w5 ho hb5 hg5 hn5
   have hfit := HB.size
   obtain ⟨D', hDi, hDj⟩ : ∃ D' : Nat → Nat → Prop, (∀ k, D' 1 k ↔ w'.heap.size ≤ k ∧ k < w5.heap.size) ∧ ∀ j, j ≠ 1 → ∀ k, D' j k ↔ D j k := ⟨fun j k => if j = 1 then w'.heap.size ≤ k ∧ k < w5.heap.size else D j k, fun k => by simp, fun j hj k => by simp [hj]⟩
   have hold : ∀ j, j ≠ 1 → ∀ k, D j k → D' j k := fun j hj k hk => (hDj j hj k).2 hk
   have hDD : ∀ i j k, D' i k → D' j k → i = j := newD QD QL hDi hDj
   have hLL : ∀ i k, D' i k → k < w5.heap.size := newL QL hDi hDj hb5.size
   have hnew := R_raise (b' := w.heap.size) (ok' := D' 1) ho (fun k hk => ⟨by have := Kd.R_base ho k hk; omega, (hDi k).2 ⟨Kd.R_base ho k hk, Kd.R_lt ho k hk⟩⟩)
   refine hK.out _ _ ⟨v0, x, v2, v3, v4, m, D', (by rw [ha]; exact putSel_upk 1 hb_ rfl rfl rfl), below_step HB hb5, fun h_ => Bk.below (Qz h_) hb5, fun h0_ => absurd ((hoff 6 (by kernel_rfl)).symm.trans h0_) (by decide), fun h0_ => absurd ((hoff 5 (by kernel_rfl)).symm.trans h0_) (by decide), hDD, hLL, fun h_ => Kd.R_mono (Kd.R_below (QV0 h_) hb5) (fun k hk => hold 0 (by decide) k hk), fun _ => hnew, fun h_ => Kd.R_mono (Kd.R_below (QV2 h_) hb5) (fun k hk => hold 2 (by decide) k hk), fun h_ => Kd.R_mono (Kd.R_below (QV3 h_) hb5) (fun k hk => hold 3 (by decide) k hk), fun h_ => Kd.R_mono (Kd.R_below (QV4 h_) hb5) (fun k hk => hold 4 (by decide) k hk)⟩
  refine steps_cons ?_ ?_
  ·rintro b a w' ⟨v0, v1, v2, v3, v4, m, D, ha, HB, Qz, Qe, Qm, QD, QL, QV0, QV1, QV2, QV3, QV4⟩ hb_ hon hoff
   refine ⟨_, rfl, fun K hK => ?_⟩
   refine Kd.R_make_step (Kd.int .i64) (w0 := w') w'.heap.size 3 (by rfl) (N := 3) rfl 24 _ _ rfl 3 rfl rfl Try.underlying24 (.int .i64 0) 8 info3 rfl (by decide) (by omega) 0 (ok := fun k => k = w'.heap.size ∨ w'.heap.size ≤ k) (okp := fun _ => False) rfl (fun _ hk => hk.elim) (.inl rfl) (by omega) (by omega) (Below.refl _ _) (Nat.le_refl _) ?_
   intro x w5 ho hb5 hg5 hn5
   have hfit := HB.size
   obtain ⟨D', hDi, hDj⟩ : ∃ D' : Nat → Nat → Prop, (∀ k, D' 2 k ↔ w'.heap.size ≤ k ∧ k < w5.heap.size) ∧ ∀ j, j ≠ 2 → ∀ k, D' j k ↔ D j k := ⟨fun j k => if j = 2 then w'.heap.size ≤ k ∧ k < w5.heap.size else D j k, fun k => by simp, fun j hj k => by simp [hj]⟩
   have hold : ∀ j, j ≠ 2 → ∀ k, D j k → D' j k := fun j hj k hk => (hDj j hj k).2 hk
   have hDD : ∀ i j k, D' i k → D' j k → i = j := newD QD QL hDi hDj
   have hLL : ∀ i k, D' i k → k < w5.heap.size := newL QL hDi hDj hb5.size
   have hnew := R_raise (b' := w.heap.size) (ok' := D' 2) ho (fun k hk => ⟨by have := Kd.R_base ho k hk; omega, (hDi k).2 ⟨Kd.R_base ho k hk, Kd.R_lt ho k hk⟩⟩)
   refine hK.out _ _ ⟨v0, v1, x, v3, v4, m, D', (by rw [ha]; exact putSel_upk 2 hb_ rfl rfl rfl), below_step HB hb5, fun h_ => Bk.below (Qz h_) hb5, fun h0_ => absurd ((hoff 6 (by kernel_rfl)).symm.trans h0_) (by decide), fun h0_ => absurd ((hoff 5 (by kernel_rfl)).symm.trans h0_) (by decide), hDD, hLL, fun h_ => Kd.R_mono (Kd.R_below (QV0 h_) hb5) (fun k hk => hold 0 (by decide) k hk), fun h_ => Kd.R_mono (Kd.R_below (QV1 h_) hb5) (fun k hk => hold 1 (by decide) k hk), fun _ => hnew, fun h_ => Kd.R_mono (Kd.R_below (QV3 h_) hb5) (fun k hk => hold 3 (by decide) k hk), fun h_ => Kd.R_mono (Kd.R_below (QV4 h_) hb5) (fun k hk => hold 4 (by decide) k hk)⟩
  refine steps_cons ?_ ?_
  ·rintro b a w' ⟨v0, v1, v2, v3, v4, m, D, ha, HB, Qz, Qe, Qm, QD, QL, QV0, QV1, QV2, QV3, QV4⟩ hb_ hon hoff
   refine ⟨_, rfl, fun K hK => ?_⟩
   refine Kd.R_make_step (Kd.int .i64) (w0 := w') w'.heap.size 3 (by rfl) (N := 4) rfl 24 _ _ rfl 3 rfl rfl Try.underlying24 (.int .i64 0) 8 info3 rfl (by decide) (by omega) 0 (ok := fun k => k = w'.heap.size ∨ w'.heap.size ≤ k) (okp := fun _ => False) rfl (fun _ hk => hk.elim) (.inl rfl) (by omega) (by omega) (Below.refl _ _) (Nat.le_refl _) ?_
   intro x w5 ho hb5 hg5 hn5
   have hfit := HB.size
   obtain ⟨D', hDi, hDj⟩ : ∃ D' : Nat → Nat → Prop, (∀ k, D' 3 k ↔ w'.heap.size ≤ k ∧ k < w5.heap.size) ∧ ∀ j, j ≠ 3 → ∀ k, D' j k ↔ D j k := ⟨fun j k => if j = 3 then w'.heap.size ≤ k ∧ k < w5.heap.size else D j k, fun k => by simp, fun j hj k => by simp [hj]⟩
   have hold : ∀ j, j ≠ 3 → ∀ k, D j k → D' j k := fun j hj k hk => (hDj j hj k).2 hk
   have hDD : ∀ i j k, D' i k → D' j k → i = j := newD QD QL hDi hDj
   have hLL : ∀ i k, D' i k → k < w5.heap.size := newL QL hDi hDj hb5.size
   have hnew := R_raise (b' := w.heap.size) (ok' := D' 3) ho (fun k hk => ⟨by have := Kd.R_base ho k hk; omega, (hDi k).2 ⟨Kd.R_base ho k hk, Kd.R_lt ho k hk⟩⟩)
   refine hK.out _ _ ⟨v0, v1, v2, x, v4, m, D', (by rw [ha]; exact putSel_upk 3 hb_ rfl rfl rfl), below_step HB hb5, fun h_ => Bk.below (Qz h_) hb5, fun h0_ => absurd ((hoff 6 (by kernel_rfl)).symm.trans h0_) (by decide), fun h0_ => absurd ((hoff 5 (by kernel_rfl)).symm.trans h0_) (by decide), hDD, hLL, fun h_ => Kd.R_mono (Kd.R_below (QV0 h_) hb5) (fun k hk => hold 0 (by decide) k hk), fun h_ => Kd.R_mono (Kd.R_below (QV1 h_) hb5) (fun k hk => hold 1 (by decide) k hk), fun h_ => Kd.R_mono (Kd.R_below (QV2 h_) hb5) (fun k hk => hold 2 (by decide) k hk), fun _ => hnew, fun h_ => Kd.R_mono (Kd.R_below (QV4 h_) hb5) (fun k hk => hold 4 (by decide) k hk)⟩
  refine steps_cons ?_ ?_
  ·rintro b a w' ⟨v0, v1, v2, v3, v4, m, D, ha, HB, Qz, Qe, Qm, QD, QL, QV0, QV1, QV2, QV3, QV4⟩ hb_ hon hoff
   refine ⟨_, rfl, fun K hK => ?_⟩
   refine Kd.R_make_step (Kd.int .i64) (w0 := w') w'.heap.size 3 (by rfl) (N := 5) rfl 24 _ _ rfl 3 rfl rfl Try.underlying24 (.int .i64 0) 8 info3 rfl (by decide) (by omega) 0 (ok := fun k => k = w'.heap.size ∨ w'.heap.size ≤ k) (okp := fun _ => False) rfl (fun _ hk => hk.elim) (.inl rfl) (by omega) (by omega) (Below.refl _ _) (Nat.le_refl _) ?_
   intro x w5 ho hb5 hg5 hn5
   have hfit := HB.size
   obtain ⟨D', hDi, hDj⟩ : ∃ D' : Nat → Nat → Prop, (∀ k, D' 4 k ↔ w'.heap.size ≤ k ∧ k < w5.heap.size) ∧ ∀ j, j ≠ 4 → ∀ k, D' j k ↔ D j k := ⟨fun j k => if j = 4 then w'.heap.size ≤ k ∧ k < w5.heap.size else D j k, fun k => by simp, fun j hj k => by simp [hj]⟩
   have hold : ∀ j, j ≠ 4 → ∀ k, D j k → D' j k := fun j hj k hk => (hDj j hj k).2 hk
   have hDD : ∀ i j k, D' i k → D' j k → i = j := newD QD QL hDi hDj
   have hLL : ∀ i k, D' i k → k < w5.heap.size := newL QL hDi hDj hb5.size
   have hnew := R_raise (b' := w.heap.size) (ok' := D' 4) ho (fun k hk => ⟨by have := Kd.R_base ho k hk; omega, (hDi k).2 ⟨Kd.R_base ho k hk, Kd.R_lt ho k hk⟩⟩)
   refine hK.out _ _ ⟨v0, v1, v2, v3, x, m, D', (by rw [ha]; exact putSel_upk 4 hb_ rfl rfl rfl), below_step HB hb5, fun h_ => Bk.below (Qz h_) hb5, fun h0_ => absurd ((hoff 6 (by kernel_rfl)).symm.trans h0_) (by decide), fun h0_ => absurd ((hoff 5 (by kernel_rfl)).symm.trans h0_) (by decide), hDD, hLL, fun h_ => Kd.R_mono (Kd.R_below (QV0 h_) hb5) (fun k hk => hold 0 (by decide) k hk), fun h_ => Kd.R_mono (Kd.R_below (QV1 h_) hb5) (fun k hk => hold 1 (by decide) k hk), fun h_ => Kd.R_mono (Kd.R_below (QV2 h_) hb5) (fun k hk => hold 2 (by decide) k hk), fun h_ => Kd.R_mono (Kd.R_below (QV3 h_) hb5) (fun k hk => hold 3 (by decide) k hk), fun _ => hnew⟩
  refine steps_cons ?_ ?_
  ·rintro b a w' ⟨v0, v1, v2, v3, v4, m, D, ha, HB, Qz, Qe, Qm, QD, QL, QV0, QV1, QV2, QV3, QV4⟩ hb_ hon hoff
   refine ⟨_, rfl, fun K hK => ?_⟩
   have e0 : a.tmps[1]? = some v0 := by rw [ha]; exact putSel_on (e := (0, 1, v0)) 0 rfl rfl (hon 0 (by kernel_rfl)) rfl
   have e1 : a.tmps[2]? = some v1 := by rw [ha]; exact putSel_on (e := (1, 2, v1)) 1 rfl rfl (hon 1 (by kernel_rfl)) rfl
   have e2 : a.tmps[3]? = some v2 := by rw [ha]; exact putSel_on (e := (2, 3, v2)) 2 rfl rfl (hon 2 (by kernel_rfl)) rfl
   have e3 : a.tmps[4]? = some v3 := by rw [ha]; exact putSel_on (e := (3, 4, v3)) 3 rfl rfl (hon 3 (by kernel_rfl)) rfl
   have e4 : a.tmps[5]? = some v4 := by rw [ha]; exact putSel_on (e := (4, 5, v4)) 4 rfl rfl (hon 4 (by kernel_rfl)) rfl
   replace ha := Ak ha
   obtain ⟨A0, c0, eo_⟩ := Kd.R_slice (QV0 (hon 0 (by kernel_rfl)))
   subst eo_
   obtain ⟨A1, c1, eo_⟩ := Kd.R_slice (QV1 (hon 1 (by kernel_rfl)))
   subst eo_
   obtain ⟨A2, c2, eo_⟩ := Kd.R_slice (QV2 (hon 2 (by kernel_rfl)))
   subst eo_
   obtain ⟨A3, c3, eo_⟩ := Kd.R_slice (QV3 (hon 3 (by kernel_rfl)))
   subst eo_
   obtain ⟨A4, c4, eo_⟩ := Kd.R_slice (QV4 (hon 4 (by kernel_rfl)))
   subst eo_
   refine value_ (w1 := w') (v := .agg #[.slice A0 (List.replicate 3 (⟨#[]⟩ : ByteArray)).length c0, .slice A1 (List.replicate 3 (⟨#[]⟩ : ByteArray)).length c1, .slice A2 (List.replicate 3 0).length c2, .slice A3 (List.replicate 3 0).length c3, .slice A4 (List.replicate 3 0).length c4]) (by rfl) rfl ?_ ?_
   ·go_simp
    try rfl
   refine hK.out _ _ ⟨.slice A0 (List.replicate 3 (⟨#[]⟩ : ByteArray)).length c0, .slice A1 (List.replicate 3 (⟨#[]⟩ : ByteArray)).length c1, .slice A2 (List.replicate 3 0).length c2, .slice A3 (List.replicate 3 0).length c3, .slice A4 (List.replicate 3 0).length c4, (.agg #[.slice A0 (List.replicate 3 (⟨#[]⟩ : ByteArray)).length c0, .slice A1 (List.replicate 3 (⟨#[]⟩ : ByteArray)).length c1, .slice A2 (List.replicate 3 0).length c2, .slice A3 (List.replicate 3 0).length c3, .slice A4 (List.replicate 3 0).length c4]), D, (by rw [ha.out]; exact putSel_upk 5 hb_ rfl rfl rfl), HB, Qz, fun h0_ => absurd ((hoff 6 (by kernel_rfl)).symm.trans h0_) (by decide), fun _ => rfl, QD, QL, QV0, QV1, QV2, QV3, QV4⟩
  refine steps_cons ?_ ?_
  ·rintro b a w' ⟨v0, v1, v2, v3, v4, m, D, ha, HB, Qz, Qe, Qm, QD, QL, QV0, QV1, QV2, QV3, QV4⟩ hb_ hon hoff
   refine ⟨_, rfl, fun K hK => ?_⟩
   have e0 : a.tmps[0]? = some (.pointer (some ⟨g2, 0, none⟩)) := by rw [ha]; exact (putSel_off rfl).trans rfl
   have e6 : a.tmps[6]? = some m := by rw [ha]; exact putSel_on (e := (5, 6, m)) 5 rfl rfl (hon 5 (by kernel_rfl)) rfl
   rw [Qm (hon 5 (by kernel_rfl))] at e6
   have hone0 : (v0 : Value).oneCell' = true := by obtain ⟨A_, c_, e_⟩ := Kd.R_slice (QV0 (hon 0 (by kernel_rfl))); rw [e_]; rfl
   have hone1 : (v1 : Value).oneCell' = true := by obtain ⟨A_, c_, e_⟩ := Kd.R_slice (QV1 (hon 1 (by kernel_rfl))); rw [e_]; rfl
   have hone2 : (v2 : Value).oneCell' = true := by obtain ⟨A_, c_, e_⟩ := Kd.R_slice (QV2 (hon 2 (by kernel_rfl))); rw [e_]; rfl
   have hone3 : (v3 : Value).oneCell' = true := by obtain ⟨A_, c_, e_⟩ := Kd.R_slice (QV3 (hon 3 (by kernel_rfl))); rw [e_]; rfl
   have hone4 : (v4 : Value).oneCell' = true := by obtain ⟨A_, c_, e_⟩ := Kd.R_slice (QV4 (hon 4 (by kernel_rfl))); rw [e_]; rfl
   have hty0 := (Kd.R_ne (QV0 (hon 0 (by kernel_rfl))) (Qz hb_) (by decide) : some g2 ≠ (v0 : Value).ownBlock)
   have hty1 := (Kd.R_ne (QV1 (hon 1 (by kernel_rfl))) (Qz hb_) (by decide) : some g2 ≠ (v1 : Value).ownBlock)
   have hty2 := (Kd.R_ne (QV2 (hon 2 (by kernel_rfl))) (Qz hb_) (by decide) : some g2 ≠ (v2 : Value).ownBlock)
   have hty3 := (Kd.R_ne (QV3 (hon 3 (by kernel_rfl))) (Qz hb_) (by decide) : some g2 ≠ (v3 : Value).ownBlock)
   have hty4 := (Kd.R_ne (QV4 (hon 4 (by kernel_rfl))) (Qz hb_) (by decide) : some g2 ≠ (v4 : Value).ownBlock)
   refine wp_storeRow_step (by rfl) rfl rfl (eval_of e0) (eval_of e6) (Qz hb_) (by kernel_rfl) rfl (by simp [hone0, hone1, hone2, hone3, hone4]) ?_
   intro w5 hk5 hg5
   refine hK.out _ _ ⟨v0, v1, v2, v3, v4, m, D, (by rw [ha]; exact putSel_none (v := undef) rfl), below_row HB hg5 HGE.out, fun h_ => absurd h_ (by rw [up_self]; decide), fun _ => hk5, Qm, QD, fun i k hk => by have := QL i k hk; have := hg5.2; omega, fun h_ => R_row (fun h => h) (QV0 h_) hg5 hty0, fun h_ => R_row (fun h => h) (QV1 h_) hg5 hty1, fun h_ => R_row (fun h => h) (QV2 h_) hg5 hty2, fun h_ => R_row (fun h => h) (QV3 h_) hg5 hty3, fun h_ => R_row (fun h => h) (QV4 h_) hg5 hty4⟩
  exact steps_nil
 rintro b a w25 hall ⟨v0, v1, v2, v3, v4, m, D, ha, HB, Qz, Qe, Qm, QD, QL, QV0, QV1, QV2, QV3, QV4⟩
 have hb0_ := hall 0 (by kernel_rfl)
 have hb1_ := hall 1 (by kernel_rfl)
 have hb2_ := hall 2 (by kernel_rfl)
 have hb3_ := hall 3 (by kernel_rfl)
 have hb4_ := hall 4 (by kernel_rfl)
 have hb5_ := hall 5 (by kernel_rfl)
 have hb6_ := hall 6 (by kernel_rfl)
 subst ha
 obtain rfl := Qm hb5_
 simp only [putSel, hb0_, hb1_, hb2_, hb3_, hb4_, hb5_, hb6_, if_true, Act.put, List.setIfInBounds_toArray, List.set_cons_zero, List.set_cons_succ]
 have HV0 := Ak (QV0 hb0_)
 have HV1 := Ak (QV1 hb1_)
 have HV2 := Ak (QV2 hb2_)
 have HV3 := Ak (QV3 hb3_)
 have HV4 := Ak (QV4 hb4_)
 have BKf := Ak (Qe hb6_)
 have HBf := Ak HB
 have HDf := Ak QD
 clear  Qz Qe Qm QD QL HB QV0 QV1 QV2 QV3 QV4 hall hb0_ hb1_ hb2_ hb3_ hb4_ hb5_ hb6_
 try go_wp2
 refine bodyPost_ret (results_cell_row rfl _ _ g2 26 #[v0, v1, v2, v3, v4] (0, 0) _ rfl BKf.out Try.underlying26 rfl (by kernel_rfl)) rfl ?_
 have o0 := HV0.out.1
 have o1 := HV1.out.1
 have o2 := HV2.out.1
 have o3 := HV3.out.1
 have o4 := HV4.out.1
 exact ⟨v0, v1, v2, v3, v4, rfl, R_raise HV0.out (fun k hk => ⟨Kd.R_base HV0.out k hk, (fun e_ => absurd (HDf.out 0 1 k (o0 k hk) (o1 k e_.symm)) (by decide))⟩), R_raise HV1.out (fun k hk => ⟨Kd.R_base HV1.out k hk, (fun e_ => absurd (HDf.out 1 0 k (o1 k hk) (o0 k e_.symm)) (by decide))⟩), R_raise HV2.out (fun k hk => ⟨Kd.R_base HV2.out k hk, ⟨(fun e_ => absurd (HDf.out 2 3 k (o2 k hk) (o3 k e_.symm)) (by decide)), (fun e_ => absurd (HDf.out 2 4 k (o2 k hk) (o4 k e_.symm)) (by decide))⟩⟩), R_raise HV3.out (fun k hk => ⟨Kd.R_base HV3.out k hk, ⟨(fun e_ => absurd (HDf.out 3 2 k (o3 k hk) (o2 k e_.symm)) (by decide)), (fun e_ => absurd (HDf.out 3 4 k (o3 k hk) (o4 k e_.symm)) (by decide))⟩⟩), R_raise HV4.out (fun k hk => ⟨Kd.R_base HV4.out k hk, ⟨(fun e_ => absurd (HDf.out 4 2 k (o4 k hk) (o2 k e_.symm)) (by decide)), (fun e_ => absurd (HDf.out 4 3 k (o4 k hk) (o3 k e_.symm)) (by decide))⟩⟩), HBf.out⟩
end Go.Proofs.Ytmekkapacbdbeaa.P
namespace Go.Proofs.Ytmekkapacbdbeaa.P
open Go.RowKit Go.Proofs.YtmekkapacbdbeaaW.PrintWords Go.Proofs.YtmekkapacbdbeaaW.PrintLast Go.Proofs.YtmekkapacbdbeaaW.PrintMore
attribute [local go_sem] max2_int min2_int max_two min_two max_three min_three max_four min_four   
set_option linter.unusedVariables false
set_option linter.unusedSimpArgs false
end Go.Proofs.Ytmekkapacbdbeaa.P
namespace Go.Proofs.Ytmekkapacbdbeaa.P
open Go.RowKit Go.Proofs.YtmekkapacbdbeaaW.PrintWords Go.Proofs.YtmekkapacbdbeaaW.PrintLast Go.Proofs.YtmekkapacbdbeaaW.PrintMore
set_option linter.unusedVariables false
set_option linter.unusedSimpArgs false
end Go.Proofs.Ytmekkapacbdbeaa.P
namespace Go.Proofs.Ytmekkapacbdbeaa.P
open Go.RowKit Go.Proofs.YtmekkapacbdbeaaW.PrintWords Go.Proofs.YtmekkapacbdbeaaW.PrintLast Go.Proofs.YtmekkapacbdbeaaW.PrintMore
attribute [local go_sem] max2_int min2_int max_two min_two max_three min_three max_four min_four   
set_option linter.unusedVariables false
set_option linter.unusedSimpArgs false
def spec_l5Copy.f (l0_0 : List ByteArray) (l0_1 : List ByteArray) (l0_2 : List Int) (l0_3 : List Int) (l0_4 : List Int) : Option (List ByteArray × List ByteArray × List Int × List Int × List Int) := (some (([] : List ByteArray) : List ByteArray)).bind fun y106 => (if y106.length + l0_0.length < 8796093022208 then ((some (([] : List ByteArray) : List ByteArray)).bind fun y112 => (if y112.length + l0_1.length < 8796093022208 then ((some (([] : List Int) : List Int)).bind fun y118 => (if y118.length + l0_2.length < 17592186044416 then ((some (([] : List Int) : List Int)).bind fun y124 => (if y124.length + l0_3.length < 17592186044416 then ((some (([] : List Int) : List Int)).bind fun y130 => (if y130.length + l0_4.length < 17592186044416 then (some ((y106 ++ l0_0), (y112 ++ l0_1), (y118 ++ l0_2), (y124 ++ l0_3), (y130 ++ l0_4))) else (none))) else (none))) else (none))) else (none))) else (none))
def spec_l5Copy.T1 : Bool × List (List Nat × List Nat) := (true, [([], []), ([], []), ([1], [1]), ([0, 2], [0, 2]), ([], []), ([], []), ([5], [5]), ([4, 6, 3], [4, 6]), ([], []), ([], []), ([9], [9]), ([8, 10, 7], [8, 10]), ([], []), ([], []), ([13], [13]), ([12, 14, 11], [12, 14]), ([], []), ([], []), ([17], [17]), ([16, 18, 15], [16, 18]), ([3, 7, 11, 15, 19], [3, 7, 11, 15, 19]), ([20, 19, 0, 1, 2, 3, 4, 5, 6, 7, 8, 9, 10, 11, 12, 13, 14, 15, 16, 17, 18, 19, 20], [20])])
def spec_l5Copy.B1 : List Nat := [0, 0, 2, 7, 0, 0, 32, 127, 0, 0, 512, 2047, 0, 0, 8192, 32767, 0, 0, 131072, 524287, 1048575, 2097151]
theorem spec_l5Copy.tab1 : rtab .any (opsOf Try.f50 1) = spec_l5Copy.T1 := by kernel_rfl
theorem spec_l5Copy.bits1 : waitsOk spec_l5Copy.T1.2 spec_l5Copy.B1 = true := by kernel_rfl
end Go.Proofs.Ytmekkapacbdbeaa.P
namespace Go.Proofs.Ytmekkapacbdbeaa.P
open Go.RowKit Go.Proofs.YtmekkapacbdbeaaW.PrintWords Go.Proofs.YtmekkapacbdbeaaW.PrintLast Go.Proofs.YtmekkapacbdbeaaW.PrintMore
set_option linter.unusedVariables false
set_option linter.unusedSimpArgs false
set_option maxHeartbeats 8000000 in
set_option maxRecDepth 100000 in
theorem spec_l5Copy.calls (A0_0 : Option Addr) (c0_0 : Nat) (l0_0 : List ByteArray) (A0_1 : Option Addr) (c0_1 : Nat) (l0_1 : List ByteArray) (A0_2 : Option Addr) (c0_2 : Nat) (l0_2 : List Int) (A0_3 : Option Addr) (c0_3 : Nat) (l0_3 : List Int) (A0_4 : Option Addr) (c0_4 : Nat) (l0_4 : List Int) (r1 : List ByteArray) (r2 : List ByteArray) (r3 : List Int) (r4 : List Int) (r5 : List Int) (w : World) (hr0_0 : Kd.C Kd.string w A0_0 l0_0.length l0_0) (hc0_0 : l0_0.length ≤ c0_0) (hr0_1 : Kd.C Kd.string w A0_1 l0_1.length l0_1) (hc0_1 : l0_1.length ≤ c0_1) (hr0_2 : Kd.C (Kd.int .i64) w A0_2 l0_2.length l0_2) (hc0_2 : l0_2.length ≤ c0_2) (hr0_3 : Kd.C (Kd.int .i64) w A0_3 l0_3.length l0_3) (hc0_3 : l0_3.length ≤ c0_3) (hr0_4 : Kd.C (Kd.int .i64) w A0_4 l0_4.length l0_4) (hc0_4 : l0_4.length ≤ c0_4) (h : spec_l5Copy.f l0_0 l0_1 l0_2 l0_3 l0_4 = some (r1, r2, r3, r4, r5)) :
  Calls Try.prog 50 #[.agg #[.slice A0_0 l0_0.length c0_0, .slice A0_1 l0_1.length c0_1, .slice A0_2 l0_2.length c0_2, .slice A0_3 l0_3.length c0_3, .slice A0_4 l0_4.length c0_4]] w fun e w' => ∃ v0_ v1_ v2_ v3_ v4_ : Value, e = .returned (.agg #[v0_, v1_, v2_, v3_, v4_]) ∧ Kd.R Kd.string 9 w' w.heap.size (fun k_ => some k_ ≠ (v1_ : Value).ownBlock) v0_ r1 ∧ Kd.R Kd.string 9 w' w.heap.size (fun k_ => some k_ ≠ (v0_ : Value).ownBlock) v1_ r2 ∧ Kd.R (Kd.int .i64) 3 w' w.heap.size (fun k_ => some k_ ≠ (v3_ : Value).ownBlock ∧ some k_ ≠ (v4_ : Value).ownBlock) v2_ r3 ∧ Kd.R (Kd.int .i64) 3 w' w.heap.size (fun k_ => some k_ ≠ (v2_ : Value).ownBlock ∧ some k_ ≠ (v4_ : Value).ownBlock) v3_ r4 ∧ Kd.R (Kd.int .i64) 3 w' w.heap.size (fun k_ => some k_ ≠ (v2_ : Value).ownBlock ∧ some k_ ≠ (v3_ : Value).ownBlock) v4_ r5 ∧ Below w.heap.size w w' := by
 unfold spec_l5Copy.f at h
 simp only [Option.bind_some, List.length_nil, Nat.zero_add, List.nil_append] at h
 by_cases hl0 : l0_0.length < 8796093022208
 case neg => rw [if_neg hl0] at h; cases h
 rw [if_pos hl0] at h
 have HL0 := Ak hl0
 clear hl0
 by_cases hl1 : l0_1.length < 8796093022208
 case neg => rw [if_neg hl1] at h; cases h
 rw [if_pos hl1] at h
 have HL1 := Ak hl1
 clear hl1
 by_cases hl2 : l0_2.length < 17592186044416
 case neg => rw [if_neg hl2] at h; cases h
 rw [if_pos hl2] at h
 have HL2 := Ak hl2
 clear hl2
 by_cases hl3 : l0_3.length < 17592186044416
 case neg => rw [if_neg hl3] at h; cases h
 rw [if_pos hl3] at h
 have HL3 := Ak hl3
 clear hl3
 by_cases hl4 : l0_4.length < 17592186044416
 case neg => rw [if_neg hl4] at h; cases h
 rw [if_pos hl4] at h
 have HL4 := Ak hl4
 clear hl4
 simp only [Option.some.injEq, Prod.mk.injEq] at h
 obtain ⟨rfl, rfl, rfl, rfl, rfl⟩ := h
 have HR0 := Ak hr0_0
 clear hr0_0 hc0_0
 have HR1 := Ak hr0_1
 clear hr0_1 hc0_1
 have HR2 := Ak hr0_2
 clear hr0_2 hc0_2
 have HR3 := Ak hr0_3
 clear hr0_3 hc0_3
 have HR4 := Ak hr0_4
 clear hr0_4 hc0_4
 have hu := Try.underlying26
 go_enter Try.func50, Try.ntmps50
 go_wp2_with (first | ((with_reducible refine gate_dst (N := 1) rfl ?_); refine ev_box ?hg (N := 1) ?hd (cs := #[.slice A0_0 l0_0.length c0_0, .slice A0_1 l0_1.length c0_1, .slice A0_2 l0_2.length c0_2, .slice A0_3 l0_3.length c0_3, .slice A0_4 l0_4.length c0_4]) (t := 26) ?hr ?_; (case hd => rfl); (case hg => rfl); (case hr => first | (go_simp; done) | (go_simp; rfl)); intro g1 W0 HG1 BK1 HB1) | ((with_reducible refine gate_dst (N := 2) rfl ?_); refine ev_box ?hg (N := 2) ?hd (cs := #[.slice none 0 0, .slice none 0 0, .slice none 0 0, .slice none 0 0, .slice none 0 0]) (t := 26) ?hr ?_; (case hd => rfl); (case hg => rfl); (case hr => first | (go_simp; done) | (go_simp; rfl)); intro g2 W1 HG2 BK2 HB2))
 have HW0 := Ak HB1.out.size
 have HG12 : Aside0 (g1 < g2) := ⟨by have h1 := BK1.out.lt; have h2 := HG2.out; omega⟩
 have HBw := Ak (below_step HB1.out HB2.out)
 have BKa := Ak (Bk.below BK1.out HB2.out)
 clear BK1 HB1
 refine start_ (n := 22) (S := fun w' => True) (ds := []) #[false, false, false, false, false, false, false, false, false, false, false, false, false, false, false, false, false, false, false, false, false, false] (by kernel_rfl) rfl rfl trivial (fun hHeld => ?_)
 clear hHeld
 refine with_tabW spec_l5Copy.tab1 spec_l5Copy.bits1 (fun HT_ HW_ => ?_)
 have BK2' : Aside0 (Bk W1.drew g2 #[.slice none 0 0, .slice none 0 0, .slice none 0 0, .slice none 0 0, .slice none 0 0] 26) := ⟨BK2.out⟩
 have HBd := Ak (below_drew1 HBw.out)
 have BKa' : Aside0 (Bk W1.drew g1 #[.slice A0_0 l0_0.length c0_0, .slice A0_1 l0_1.length c0_1, .slice A0_2 l0_2.length c0_2, .slice A0_3 l0_3.length c0_3, .slice A0_4 l0_4.length c0_4] 26) := ⟨BKa.out⟩
 have HGE : Aside0 (w.heap.size ≤ g2) := ⟨by have h1 := HG2.out; have h2 := HW0.out; omega⟩
 generalize W1.drew = w4 at BK2' HBd BKa' ⊢
 clear HBw BK2 HB2 BKa
 refine inv_at [0, 1, 2, 3, 4, 5, 6, 7, 8, 9, 10, 11, 12, 13, 14, 15, 16, 17, 18, 19, 20, 21] (fun a0_ b a w' => ∃ (u0 : Value) (u1 : Value) (u2 : Value) (u3 : Value) (u4 : Value) (v0 : Value) (v1 : Value) (v2 : Value) (v3 : Value) (v4 : Value) (m : Value) (D : Nat → Nat → Prop), a = putSel a0_ b [(0, 3, u0), (1, 4, .pointer (some ⟨g1, 0, none⟩)), (2, 5, .slice A0_0 l0_0.length c0_0), (3, 6, v0), (4, 7, u1), (5, 8, .pointer (some ⟨g1, 1, none⟩)), (6, 9, .slice A0_1 l0_1.length c0_1), (7, 10, v1), (8, 11, u2), (9, 12, .pointer (some ⟨g1, 2, none⟩)), (10, 13, .slice A0_2 l0_2.length c0_2), (11, 14, v2), (12, 15, u3), (13, 16, .pointer (some ⟨g1, 3, none⟩)), (14, 17, .slice A0_3 l0_3.length c0_3), (15, 18, v3), (16, 19, u4), (17, 20, .pointer (some ⟨g1, 4, none⟩)), (18, 21, .slice A0_4 l0_4.length c0_4), (19, 22, v4), (20, 23, m)] ∧ Below w.heap.size w w' ∧ Bk w' g1 #[.slice A0_0 l0_0.length c0_0, .slice A0_1 l0_1.length c0_1, .slice A0_2 l0_2.length c0_2, .slice A0_3 l0_3.length c0_3, .slice A0_4 l0_4.length c0_4] 26 ∧ (b 21 = false → Bk w' g2 #[.slice none 0 0, .slice none 0 0, .slice none 0 0, .slice none 0 0, .slice none 0 0] 26) ∧ (b 21 = true → Bk w' g2 #[v0, v1, v2, v3, v4] 26) ∧ (b 20 = true → m = .agg #[v0, v1, v2, v3, v4]) ∧ (∀ i j k, D i k → D j k → i = j) ∧ (∀ i k, D i k → k < w'.heap.size) ∧ (b 0 = true → b 3 = false → Kd.R Kd.string 9 w' w.heap.size (D 0) u0 ([] : List ByteArray)) ∧ (b 4 = true → b 7 = false → Kd.R Kd.string 9 w' w.heap.size (D 1) u1 ([] : List ByteArray)) ∧ (b 8 = true → b 11 = false → Kd.R (Kd.int .i64) 3 w' w.heap.size (D 2) u2 ([] : List Int)) ∧ (b 12 = true → b 15 = false → Kd.R (Kd.int .i64) 3 w' w.heap.size (D 3) u3 ([] : List Int)) ∧ (b 16 = true → b 19 = false → Kd.R (Kd.int .i64) 3 w' w.heap.size (D 4) u4 ([] : List Int)) ∧ (b 3 = true → Kd.R Kd.string 9 w' w.heap.size (D 0) v0 l0_0) ∧ (b 7 = true → Kd.R Kd.string 9 w' w.heap.size (D 1) v1 l0_1) ∧ (b 11 = true → Kd.R (Kd.int .i64) 3 w' w.heap.size (D 2) v2 l0_2) ∧ (b 15 = true → Kd.R (Kd.int .i64) 3 w' w.heap.size (D 3) v3 l0_3) ∧ (b 19 = true → Kd.R (Kd.int .i64) 3 w' w.heap.size (D 4) v4 l0_4)) HT_.out HW_.out (by kernel_rfl) (by kernel_rfl) ?_ ?_ ?_
 ·exact ⟨.bool false, .bool false, .bool false, .bool false, .bool false, .bool false, .bool false, .bool false, .bool false, .bool false, .bool false, fun _ _ => False, by simp only [putSel, Bool.false_eq_true, if_false], HBd.out, BKa'.out, fun _ => BK2'.out, fun h_ => absurd h_ (by decide), fun h_ => absurd h_ (by decide), fun _ _ _ h_ => h_.elim, fun _ _ h_ => h_.elim, fun h_ _ => absurd h_ (by decide), fun h_ _ => absurd h_ (by decide), fun h_ _ => absurd h_ (by decide), fun h_ _ => absurd h_ (by decide), fun h_ _ => absurd h_ (by decide), fun h_ => absurd h_ (by decide), fun h_ => absurd h_ (by decide), fun h_ => absurd h_ (by decide), fun h_ => absurd h_ (by decide), fun h_ => absurd h_ (by decide)⟩
 ·clear BK2' HBd BKa'
  refine steps_cons ?_ ?_
  ·rintro b a w' ⟨u0, u1, u2, u3, u4, v0, v1, v2, v3, v4, m, D, ha, HB, QA, Qz, Qe, Qm, QD, QL, QU0, QU1, QU2, QU3, QU4, QV0, QV1, QV2, QV3, QV4⟩ hb_ hon hoff
   refine ⟨_, rfl, fun K hK => ?_⟩
   refine Kd.R_lit_step Kd.string (w0 := w') w'.heap.size 9 (by rfl) (N := 3) rfl (xs := ([] : List ByteArray)) (inner := []) (ok := fun k => k = w'.heap.size ∨ w'.heap.size ≤ k) (okp := fun _ => False) (by first | (go_simp; done) | (go_simp; rfl)) ⟨rfl, fun j p hj => by simp at hj⟩ (fun _ hk => hk.elim) (.inl rfl) (Below.refl _ _) (Nat.le_refl _) (by simp) ?_
   intro x w5 ho hb5 hg5 hn5
   have hfit := HB.size
   obtain ⟨D', hDi, hDj⟩ : ∃ D' : Nat → Nat → Prop, (∀ k, D' 0 k ↔ w'.heap.size ≤ k ∧ k < w5.heap.size) ∧ ∀ j, j ≠ 0 → ∀ k, D' j k ↔ D j k := ⟨fun j k => if j = 0 then w'.heap.size ≤ k ∧ k < w5.heap.size else D j k, fun k => by simp, fun j hj k => by simp [hj]⟩
   have hold : ∀ j, j ≠ 0 → ∀ k, D j k → D' j k := fun j hj k hk => (hDj j hj k).2 hk
   have hDD : ∀ i j k, D' i k → D' j k → i = j := newD QD QL hDi hDj
   have hLL : ∀ i k, D' i k → k < w5.heap.size := newL QL hDi hDj hb5.size
   have hnew := R_raise (b' := w.heap.size) (ok' := D' 0) ho (fun k hk => ⟨by have := Kd.R_base ho k hk; omega, (hDi k).2 ⟨Kd.R_base ho k hk, Kd.R_lt ho k hk⟩⟩)
   refine hK.out _ _ ⟨x, u1, u2, u3, u4, v0, v1, v2, v3, v4, m, D', (by rw [ha]; exact putSel_upk 0 hb_ rfl rfl rfl), below_step HB hb5, Bk.below QA hb5, fun h_ => Bk.below (Qz h_) hb5, fun h0_ => absurd ((hoff 21 (by kernel_rfl)).symm.trans h0_) (by decide), fun h0_ => absurd ((hoff 20 (by kernel_rfl)).symm.trans h0_) (by decide), hDD, hLL, fun _ _ => hnew, fun h_ h2_ => Kd.R_mono (Kd.R_below (QU1 h_ h2_) hb5) (fun k hk => hold 1 (by decide) k hk), fun h_ h2_ => Kd.R_mono (Kd.R_below (QU2 h_ h2_) hb5) (fun k hk => hold 2 (by decide) k hk), fun h_ h2_ => Kd.R_mono (Kd.R_below (QU3 h_ h2_) hb5) (fun k hk => hold 3 (by decide) k hk), fun h_ h2_ => Kd.R_mono (Kd.R_below (QU4 h_ h2_) hb5) (fun k hk => hold 4 (by decide) k hk), fun h0_ => absurd ((hoff 3 (by kernel_rfl)).symm.trans h0_) (by decide), fun h_ => Kd.R_mono (Kd.R_below (QV1 h_) hb5) (fun k hk => hold 1 (by decide) k hk), fun h_ => Kd.R_mono (Kd.R_below (QV2 h_) hb5) (fun k hk => hold 2 (by decide) k hk), fun h_ => Kd.R_mono (Kd.R_below (QV3 h_) hb5) (fun k hk => hold 3 (by decide) k hk), fun h_ => Kd.R_mono (Kd.R_below (QV4 h_) hb5) (fun k hk => hold 4 (by decide) k hk)⟩
  refine steps_cons ?_ ?_
  ·rintro b a w' ⟨u0, u1, u2, u3, u4, v0, v1, v2, v3, v4, m, D, ha, HB, QA, Qz, Qe, Qm, QD, QL, QU0, QU1, QU2, QU3, QU4, QV0, QV1, QV2, QV3, QV4⟩ hb_ hon hoff
   refine ⟨_, rfl, fun K hK => ?_⟩
   have e1 : a.tmps[1]? = some (.pointer (some ⟨g1, 0, none⟩)) := by rw [ha]; exact (putSel_off rfl).trans rfl
   replace ha := Ak ha
   refine value_ (w1 := w') (v := .pointer (some ⟨g1, 0, none⟩)) (by rfl) rfl ?_ ?_
   ·go_simp
    try rfl
   refine hK.out _ _ ⟨u0, u1, u2, u3, u4, v0, v1, v2, v3, v4, m, D, (by rw [ha.out]; exact putSel_upk 1 hb_ rfl rfl rfl), HB, QA, Qz, fun h0_ => absurd ((hoff 21 (by kernel_rfl)).symm.trans h0_) (by decide), fun h0_ => absurd ((hoff 20 (by kernel_rfl)).symm.trans h0_) (by decide), QD, QL, QU0, QU1, QU2, QU3, QU4, fun h0_ => absurd ((hoff 3 (by kernel_rfl)).symm.trans h0_) (by decide), QV1, QV2, QV3, QV4⟩
  refine steps_cons ?_ ?_
  ·rintro b a w' ⟨u0, u1, u2, u3, u4, v0, v1, v2, v3, v4, m, D, ha, HB, QA, Qz, Qe, Qm, QD, QL, QU0, QU1, QU2, QU3, QU4, QV0, QV1, QV2, QV3, QV4⟩ hb_ hon hoff
   refine ⟨_, rfl, fun K hK => ?_⟩
   have e4 : a.tmps[4]? = some (.pointer (some ⟨g1, 0, none⟩)) := by rw [ha]; exact putSel_on (e := (1, 4, .pointer (some ⟨g1, 0, none⟩))) 1 rfl rfl (hon 1 (by kernel_rfl)) rfl
   have hc : w'.cell? ⟨g1, 0, none⟩ = some (.slice A0_0 l0_0.length c0_0) := (Bk.cell QA 0).trans rfl
   have HX := Ak QA
   replace ha := Ak ha
   refine value_ (w1 := w') (v := .slice A0_0 l0_0.length c0_0) (by rfl) rfl ?_ ?_
   ·go_simp
    try rfl
   refine hK.out _ _ ⟨u0, u1, u2, u3, u4, v0, v1, v2, v3, v4, m, D, (by rw [ha.out]; exact putSel_upk 2 hb_ rfl rfl rfl), HB, HX.out, Qz, fun h0_ => absurd ((hoff 21 (by kernel_rfl)).symm.trans h0_) (by decide), fun h0_ => absurd ((hoff 20 (by kernel_rfl)).symm.trans h0_) (by decide), QD, QL, QU0, QU1, QU2, QU3, QU4, fun h0_ => absurd ((hoff 3 (by kernel_rfl)).symm.trans h0_) (by decide), QV1, QV2, QV3, QV4⟩
  refine steps_cons ?_ ?_
  ·rintro b a w' ⟨u0, u1, u2, u3, u4, v0, v1, v2, v3, v4, m, D, ha, HB, QA, Qz, Qe, Qm, QD, QL, QU0, QU1, QU2, QU3, QU4, QV0, QV1, QV2, QV3, QV4⟩ hb_ hon hoff
   refine ⟨_, rfl, fun K hK => ?_⟩
   have e3 : a.tmps[3]? = some u0 := by rw [ha]; exact putSel_on (e := (0, 3, u0)) 0 rfl rfl (hon 0 (by kernel_rfl)) rfl
   have e5 : a.tmps[5]? = some (.slice A0_0 l0_0.length c0_0) := by rw [ha]; exact putSel_on (e := (2, 5, .slice A0_0 l0_0.length c0_0)) 2 rfl rfl (hon 2 (by kernel_rfl)) rfl
   have hU := QU0 (hon 0 (by kernel_rfl)) hb_
   refine Kd.R_append_rows_step Kd.string (w0 := w) w.heap.size (by rfl) (.tmp 3) (.tmp 5) 23 9 (.string ⟨#[]⟩) 16 rfl Try.underlying23 info9 rfl (by decide) (by omega) u0 ([] : List ByteArray) l0_0 A0_0 l0_0.length c0_0 (fun k => D 0 k ∨ w'.heap.size ≤ k) (fun _ => False) (eval_of e3) (eval_of e5) (Kd.R_mono hU (fun _ h_ => .inl h_)) (Kd.C_below HR0.out HB) (fun _ _ h_ => h_) (fun _ h_ => h_.elim) (fun _ h_ => .inr h_) HB HB.size (by have := HL0.out; simp; omega) ?_
   intro x w5 ho hb5 hg5 hn5
   rw [List.nil_append] at ho
   have hne1 : some g1 ≠ (u0 : Value).ownBlock := Kd.R_ne hU QA (by decide)
   have hne2 := fun h_ => (Kd.R_ne hU (Qz h_) (by decide) : some g2 ≠ (u0 : Value).ownBlock)
   have hU0 := hU.1
   obtain ⟨D', hDi, hDj⟩ : ∃ D' : Nat → Nat → Prop, (∀ k, D' 0 k ↔ D 0 k ∨ (w'.heap.size ≤ k ∧ k < w5.heap.size)) ∧ ∀ j, j ≠ 0 → ∀ k, D' j k ↔ D j k := ⟨fun j k => if j = 0 then D 0 k ∨ (w'.heap.size ≤ k ∧ k < w5.heap.size) else D j k, fun k => by simp, fun j hj k => by simp [hj]⟩
   have hold : ∀ j, j ≠ 0 → ∀ k, D j k → D' j k := fun j hj k hk => (hDj j hj k).2 hk
   have hDD : ∀ i j k, D' i k → D' j k → i = j := growD QD QL hDi hDj
   have hLL : ∀ i k, D' i k → k < w5.heap.size := growL QL hDi hDj hg5.size
   have hap : ∀ j, j ≠ 0 → ∀ k, D j k → some k ≠ (u0 : Value).ownBlock := fun j hj k hk e_ => hj (QD j 0 k hk (hU0 k e_.symm))
   have hnew := R_raise (b' := w.heap.size) (ok' := D' 0) ho (fun k hk => ⟨Kd.R_base ho k hk, (hDi k).2 (by rcases ho.1 k hk with h_ | h_; exact .inl h_; exact .inr ⟨h_, Kd.R_lt ho k hk⟩)⟩)
   refine hK.out _ _ ⟨u0, u1, u2, u3, u4, x, v1, v2, v3, v4, m, D', (by rw [ha]; exact putSel_upk 3 hb_ rfl rfl rfl), hb5, blk_grown QA hg5 hne1, fun h_ => blk_grown (Qz h_) hg5 (hne2 h_), fun h0_ => absurd ((hoff 21 (by kernel_rfl)).symm.trans h0_) (by decide), fun h0_ => absurd ((hoff 20 (by kernel_rfl)).symm.trans h0_) (by decide), hDD, hLL, fun h_ h2_ => absurd h2_ (by rw [up_self]; decide), fun h_ h2_ => Kd.R_mono (Kd.R_grown (QU1 h_ h2_) hg5 (hap 1 (by decide))) (fun k hk => hold 1 (by decide) k hk), fun h_ h2_ => Kd.R_mono (Kd.R_grown (QU2 h_ h2_) hg5 (hap 2 (by decide))) (fun k hk => hold 2 (by decide) k hk), fun h_ h2_ => Kd.R_mono (Kd.R_grown (QU3 h_ h2_) hg5 (hap 3 (by decide))) (fun k hk => hold 3 (by decide) k hk), fun h_ h2_ => Kd.R_mono (Kd.R_grown (QU4 h_ h2_) hg5 (hap 4 (by decide))) (fun k hk => hold 4 (by decide) k hk), fun _ => hnew, fun h_ => Kd.R_mono (Kd.R_grown (QV1 h_) hg5 (hap 1 (by decide))) (fun k hk => hold 1 (by decide) k hk), fun h_ => Kd.R_mono (Kd.R_grown (QV2 h_) hg5 (hap 2 (by decide))) (fun k hk => hold 2 (by decide) k hk), fun h_ => Kd.R_mono (Kd.R_grown (QV3 h_) hg5 (hap 3 (by decide))) (fun k hk => hold 3 (by decide) k hk), fun h_ => Kd.R_mono (Kd.R_grown (QV4 h_) hg5 (hap 4 (by decide))) (fun k hk => hold 4 (by decide) k hk)⟩
  refine steps_cons ?_ ?_
  ·rintro b a w' ⟨u0, u1, u2, u3, u4, v0, v1, v2, v3, v4, m, D, ha, HB, QA, Qz, Qe, Qm, QD, QL, QU0, QU1, QU2, QU3, QU4, QV0, QV1, QV2, QV3, QV4⟩ hb_ hon hoff
   refine ⟨_, rfl, fun K hK => ?_⟩
   refine Kd.R_lit_step Kd.string (w0 := w') w'.heap.size 9 (by rfl) (N := 7) rfl (xs := ([] : List ByteArray)) (inner := []) (ok := fun k => k = w'.heap.size ∨ w'.heap.size ≤ k) (okp := fun _ => False) (by first | (go_simp; done) | (go_simp; rfl)) ⟨rfl, fun j p hj => by simp at hj⟩ (fun _ hk => hk.elim) (.inl rfl) (Below.refl _ _) (Nat.le_refl _) (by simp) ?_
   intro x w5 ho hb5 hg5 hn5
   have hfit := HB.size
   obtain ⟨D', hDi, hDj⟩ : ∃ D' : Nat → Nat → Prop, (∀ k, D' 1 k ↔ w'.heap.size ≤ k ∧ k < w5.heap.size) ∧ ∀ j, j ≠ 1 → ∀ k, D' j k ↔ D j k := ⟨fun j k => if j = 1 then w'.heap.size ≤ k ∧ k < w5.heap.size else D j k, fun k => by simp, fun j hj k => by simp [hj]⟩
   have hold : ∀ j, j ≠ 1 → ∀ k, D j k → D' j k := fun j hj k hk => (hDj j hj k).2 hk
   have hDD : ∀ i j k, D' i k → D' j k → i = j := newD QD QL hDi hDj
   have hLL : ∀ i k, D' i k → k < w5.heap.size := newL QL hDi hDj hb5.size
   have hnew := R_raise (b' := w.heap.size) (ok' := D' 1) ho (fun k hk => ⟨by have := Kd.R_base ho k hk; omega, (hDi k).2 ⟨Kd.R_base ho k hk, Kd.R_lt ho k hk⟩⟩)
   refine hK.out _ _ ⟨u0, x, u2, u3, u4, v0, v1, v2, v3, v4, m, D', (by rw [ha]; exact putSel_upk 4 hb_ rfl rfl rfl), below_step HB hb5, Bk.below QA hb5, fun h_ => Bk.below (Qz h_) hb5, fun h0_ => absurd ((hoff 21 (by kernel_rfl)).symm.trans h0_) (by decide), fun h0_ => absurd ((hoff 20 (by kernel_rfl)).symm.trans h0_) (by decide), hDD, hLL, fun h_ h2_ => Kd.R_mono (Kd.R_below (QU0 h_ h2_) hb5) (fun k hk => hold 0 (by decide) k hk), fun _ _ => hnew, fun h_ h2_ => Kd.R_mono (Kd.R_below (QU2 h_ h2_) hb5) (fun k hk => hold 2 (by decide) k hk), fun h_ h2_ => Kd.R_mono (Kd.R_below (QU3 h_ h2_) hb5) (fun k hk => hold 3 (by decide) k hk), fun h_ h2_ => Kd.R_mono (Kd.R_below (QU4 h_ h2_) hb5) (fun k hk => hold 4 (by decide) k hk), fun h_ => Kd.R_mono (Kd.R_below (QV0 h_) hb5) (fun k hk => hold 0 (by decide) k hk), fun h0_ => absurd ((hoff 7 (by kernel_rfl)).symm.trans h0_) (by decide), fun h_ => Kd.R_mono (Kd.R_below (QV2 h_) hb5) (fun k hk => hold 2 (by decide) k hk), fun h_ => Kd.R_mono (Kd.R_below (QV3 h_) hb5) (fun k hk => hold 3 (by decide) k hk), fun h_ => Kd.R_mono (Kd.R_below (QV4 h_) hb5) (fun k hk => hold 4 (by decide) k hk)⟩
  refine steps_cons ?_ ?_
  ·rintro b a w' ⟨u0, u1, u2, u3, u4, v0, v1, v2, v3, v4, m, D, ha, HB, QA, Qz, Qe, Qm, QD, QL, QU0, QU1, QU2, QU3, QU4, QV0, QV1, QV2, QV3, QV4⟩ hb_ hon hoff
   refine ⟨_, rfl, fun K hK => ?_⟩
   have e1 : a.tmps[1]? = some (.pointer (some ⟨g1, 0, none⟩)) := by rw [ha]; exact (putSel_off rfl).trans rfl
   replace ha := Ak ha
   refine value_ (w1 := w') (v := .pointer (some ⟨g1, 1, none⟩)) (by rfl) rfl ?_ ?_
   ·go_simp
    try rfl
   refine hK.out _ _ ⟨u0, u1, u2, u3, u4, v0, v1, v2, v3, v4, m, D, (by rw [ha.out]; exact putSel_upk 5 hb_ rfl rfl rfl), HB, QA, Qz, fun h0_ => absurd ((hoff 21 (by kernel_rfl)).symm.trans h0_) (by decide), fun h0_ => absurd ((hoff 20 (by kernel_rfl)).symm.trans h0_) (by decide), QD, QL, QU0, QU1, QU2, QU3, QU4, QV0, fun h0_ => absurd ((hoff 7 (by kernel_rfl)).symm.trans h0_) (by decide), QV2, QV3, QV4⟩
  refine steps_cons ?_ ?_
  ·rintro b a w' ⟨u0, u1, u2, u3, u4, v0, v1, v2, v3, v4, m, D, ha, HB, QA, Qz, Qe, Qm, QD, QL, QU0, QU1, QU2, QU3, QU4, QV0, QV1, QV2, QV3, QV4⟩ hb_ hon hoff
   refine ⟨_, rfl, fun K hK => ?_⟩
   have e4 : a.tmps[8]? = some (.pointer (some ⟨g1, 1, none⟩)) := by rw [ha]; exact putSel_on (e := (5, 8, .pointer (some ⟨g1, 1, none⟩))) 5 rfl rfl (hon 5 (by kernel_rfl)) rfl
   have hc : w'.cell? ⟨g1, 1, none⟩ = some (.slice A0_1 l0_1.length c0_1) := (Bk.cell QA 1).trans rfl
   have HX := Ak QA
   replace ha := Ak ha
   refine value_ (w1 := w') (v := .slice A0_1 l0_1.length c0_1) (by rfl) rfl ?_ ?_
   ·go_simp
    try rfl
   refine hK.out _ _ ⟨u0, u1, u2, u3, u4, v0, v1, v2, v3, v4, m, D, (by rw [ha.out]; exact putSel_upk 6 hb_ rfl rfl rfl), HB, HX.out, Qz, fun h0_ => absurd ((hoff 21 (by kernel_rfl)).symm.trans h0_) (by decide), fun h0_ => absurd ((hoff 20 (by kernel_rfl)).symm.trans h0_) (by decide), QD, QL, QU0, QU1, QU2, QU3, QU4, QV0, fun h0_ => absurd ((hoff 7 (by kernel_rfl)).symm.trans h0_) (by decide), QV2, QV3, QV4⟩
  refine steps_cons ?_ ?_
  ·rintro b a w' ⟨u0, u1, u2, u3, u4, v0, v1, v2, v3, v4, m, D, ha, HB, QA, Qz, Qe, Qm, QD, QL, QU0, QU1, QU2, QU3, QU4, QV0, QV1, QV2, QV3, QV4⟩ hb_ hon hoff
   refine ⟨_, rfl, fun K hK => ?_⟩
   have e3 : a.tmps[7]? = some u1 := by rw [ha]; exact putSel_on (e := (4, 7, u1)) 4 rfl rfl (hon 4 (by kernel_rfl)) rfl
   have e5 : a.tmps[9]? = some (.slice A0_1 l0_1.length c0_1) := by rw [ha]; exact putSel_on (e := (6, 9, .slice A0_1 l0_1.length c0_1)) 6 rfl rfl (hon 6 (by kernel_rfl)) rfl
   have hU := QU1 (hon 4 (by kernel_rfl)) hb_
   refine Kd.R_append_rows_step Kd.string (w0 := w) w.heap.size (by rfl) (.tmp 7) (.tmp 9) 23 9 (.string ⟨#[]⟩) 16 rfl Try.underlying23 info9 rfl (by decide) (by omega) u1 ([] : List ByteArray) l0_1 A0_1 l0_1.length c0_1 (fun k => D 1 k ∨ w'.heap.size ≤ k) (fun _ => False) (eval_of e3) (eval_of e5) (Kd.R_mono hU (fun _ h_ => .inl h_)) (Kd.C_below HR1.out HB) (fun _ _ h_ => h_) (fun _ h_ => h_.elim) (fun _ h_ => .inr h_) HB HB.size (by have := HL1.out; simp; omega) ?_
   intro x w5 ho hb5 hg5 hn5
   rw [List.nil_append] at ho
   have hne1 : some g1 ≠ (u1 : Value).ownBlock := Kd.R_ne hU QA (by decide)
   have hne2 := fun h_ => (Kd.R_ne hU (Qz h_) (by decide) : some g2 ≠ (u1 : Value).ownBlock)
   have hU0 := hU.1
   obtain ⟨D', hDi, hDj⟩ : ∃ D' : Nat → Nat → Prop, (∀ k, D' 1 k ↔ D 1 k ∨ (w'.heap.size ≤ k ∧ k < w5.heap.size)) ∧ ∀ j, j ≠ 1 → ∀ k, D' j k ↔ D j k := ⟨fun j k => if j = 1 then D 1 k ∨ (w'.heap.size ≤ k ∧ k < w5.heap.size) else D j k, fun k => by simp, fun j hj k => by simp [hj]⟩
   have hold : ∀ j, j ≠ 1 → ∀ k, D j k → D' j k := fun j hj k hk => (hDj j hj k).2 hk
   have hDD : ∀ i j k, D' i k → D' j k → i = j := growD QD QL hDi hDj
   have hLL : ∀ i k, D' i k → k < w5.heap.size := growL QL hDi hDj hg5.size
   have hap : ∀ j, j ≠ 1 → ∀ k, D j k → some k ≠ (u1 : Value).ownBlock := fun j hj k hk e_ => hj (QD j 1 k hk (hU0 k e_.symm))
   have hnew := R_raise (b' := w.heap.size) (ok' := D' 1) ho (fun k hk => ⟨Kd.R_base ho k hk, (hDi k).2 (by rcases ho.1 k hk with h_ | h_; exact .inl h_; exact .inr ⟨h_, Kd.R_lt ho k hk⟩)⟩)
   refine hK.out _ _ ⟨u0, u1, u2, u3, u4, v0, x, v2, v3, v4, m, D', (by rw [ha]; exact putSel_upk 7 hb_ rfl rfl rfl), hb5, blk_grown QA hg5 hne1, fun h_ => blk_grown (Qz h_) hg5 (hne2 h_), fun h0_ => absurd ((hoff 21 (by kernel_rfl)).symm.trans h0_) (by decide), fun h0_ => absurd ((hoff 20 (by kernel_rfl)).symm.trans h0_) (by decide), hDD, hLL, fun h_ h2_ => Kd.R_mono (Kd.R_grown (QU0 h_ h2_) hg5 (hap 0 (by decide))) (fun k hk => hold 0 (by decide) k hk), fun h_ h2_ => absurd h2_ (by rw [up_self]; decide), fun h_ h2_ => Kd.R_mono (Kd.R_grown (QU2 h_ h2_) hg5 (hap 2 (by decide))) (fun k hk => hold 2 (by decide) k hk), fun h_ h2_ => Kd.R_mono (Kd.R_grown (QU3 h_ h2_) hg5 (hap 3 (by decide))) (fun k hk => hold 3 (by decide) k hk), fun h_ h2_ => Kd.R_mono (Kd.R_grown (QU4 h_ h2_) hg5 (hap 4 (by decide))) (fun k hk => hold 4 (by decide) k hk), fun h_ => Kd.R_mono (Kd.R_grown (QV0 h_) hg5 (hap 0 (by decide))) (fun k hk => hold 0 (by decide) k hk), fun _ => hnew, fun h_ => Kd.R_mono (Kd.R_grown (QV2 h_) hg5 (hap 2 (by decide))) (fun k hk => hold 2 (by decide) k hk), fun h_ => Kd.R_mono (Kd.R_grown (QV3 h_) hg5 (hap 3 (by decide))) (fun k hk => hold 3 (by decide) k hk), fun h_ => Kd.R_mono (Kd.R_grown (QV4 h_) hg5 (hap 4 (by decide))) (fun k hk => hold 4 (by decide) k hk)⟩
  refine steps_cons ?_ ?_
  ·rintro b a w' ⟨u0, u1, u2, u3, u4, v0, v1, v2, v3, v4, m, D, ha, HB, QA, Qz, Qe, Qm, QD, QL, QU0, QU1, QU2, QU3, QU4, QV0, QV1, QV2, QV3, QV4⟩ hb_ hon hoff
   refine ⟨_, rfl, fun K hK => ?_⟩
   refine Kd.R_lit_step (Kd.int .i64) (w0 := w') w'.heap.size 3 (by rfl) (N := 11) rfl (xs := ([] : List Int)) (inner := []) (ok := fun k => k = w'.heap.size ∨ w'.heap.size ≤ k) (okp := fun _ => False) (by first | (go_simp; done) | (go_simp; rfl)) ⟨rfl, fun j p hj => by simp at hj⟩ (fun _ hk => hk.elim) (.inl rfl) (Below.refl _ _) (Nat.le_refl _) (by simp) ?_
   intro x w5 ho hb5 hg5 hn5
   have hfit := HB.size
   obtain ⟨D', hDi, hDj⟩ : ∃ D' : Nat → Nat → Prop, (∀ k, D' 2 k ↔ w'.heap.size ≤ k ∧ k < w5.heap.size) ∧ ∀ j, j ≠ 2 → ∀ k, D' j k ↔ D j k := ⟨fun j k => if j = 2 then w'.heap.size ≤ k ∧ k < w5.heap.size else D j k, fun k => by simp, fun j hj k => by simp [hj]⟩
   have hold : ∀ j, j ≠ 2 → ∀ k, D j k → D' j k := fun j hj k hk => (hDj j hj k).2 hk
   have hDD : ∀ i j k, D' i k → D' j k → i = j := newD QD QL hDi hDj
   have hLL : ∀ i k, D' i k → k < w5.heap.size := newL QL hDi hDj hb5.size
   have hnew := R_raise (b' := w.heap.size) (ok' := D' 2) ho (fun k hk => ⟨by have := Kd.R_base ho k hk; omega, (hDi k).2 ⟨Kd.R_base ho k hk, Kd.R_lt ho k hk⟩⟩)
   refine hK.out _ _ ⟨u0, u1, x, u3, u4, v0, v1, v2, v3, v4, m, D', (by rw [ha]; exact putSel_upk 8 hb_ rfl rfl rfl), below_step HB hb5, Bk.below QA hb5, fun h_ => Bk.below (Qz h_) hb5, fun h0_ => absurd ((hoff 21 (by kernel_rfl)).symm.trans h0_) (by decide), fun h0_ => absurd ((hoff 20 (by kernel_rfl)).symm.trans h0_) (by decide), hDD, hLL, fun h_ h2_ => Kd.R_mono (Kd.R_below (QU0 h_ h2_) hb5) (fun k hk => hold 0 (by decide) k hk), fun h_ h2_ => Kd.R_mono (Kd.R_below (QU1 h_ h2_) hb5) (fun k hk => hold 1 (by decide) k hk), fun _ _ => hnew, fun h_ h2_ => Kd.R_mono (Kd.R_below (QU3 h_ h2_) hb5) (fun k hk => hold 3 (by decide) k hk), fun h_ h2_ => Kd.R_mono (Kd.R_below (QU4 h_ h2_) hb5) (fun k hk => hold 4 (by decide) k hk), fun h_ => Kd.R_mono (Kd.R_below (QV0 h_) hb5) (fun k hk => hold 0 (by decide) k hk), fun h_ => Kd.R_mono (Kd.R_below (QV1 h_) hb5) (fun k hk => hold 1 (by decide) k hk), fun h0_ => absurd ((hoff 11 (by kernel_rfl)).symm.trans h0_) (by decide), fun h_ => Kd.R_mono (Kd.R_below (QV3 h_) hb5) (fun k hk => hold 3 (by decide) k hk), fun h_ => Kd.R_mono (Kd.R_below (QV4 h_) hb5) (fun k hk => hold 4 (by decide) k hk)⟩
  refine steps_cons ?_ ?_
  ·rintro b a w' ⟨u0, u1, u2, u3, u4, v0, v1, v2, v3, v4, m, D, ha, HB, QA, Qz, Qe, Qm, QD, QL, QU0, QU1, QU2, QU3, QU4, QV0, QV1, QV2, QV3, QV4⟩ hb_ hon hoff
   refine ⟨_, rfl, fun K hK => ?_⟩
   have e1 : a.tmps[1]? = some (.pointer (some ⟨g1, 0, none⟩)) := by rw [ha]; exact (putSel_off rfl).trans rfl
   replace ha := Ak ha
   refine value_ (w1 := w') (v := .pointer (some ⟨g1, 2, none⟩)) (by rfl) rfl ?_ ?_
   ·go_simp
    try rfl
   refine hK.out _ _ ⟨u0, u1, u2, u3, u4, v0, v1, v2, v3, v4, m, D, (by rw [ha.out]; exact putSel_upk 9 hb_ rfl rfl rfl), HB, QA, Qz, fun h0_ => absurd ((hoff 21 (by kernel_rfl)).symm.trans h0_) (by decide), fun h0_ => absurd ((hoff 20 (by kernel_rfl)).symm.trans h0_) (by decide), QD, QL, QU0, QU1, QU2, QU3, QU4, QV0, QV1, fun h0_ => absurd ((hoff 11 (by kernel_rfl)).symm.trans h0_) (by decide), QV3, QV4⟩
  refine steps_cons ?_ ?_
  ·rintro b a w' ⟨u0, u1, u2, u3, u4, v0, v1, v2, v3, v4, m, D, ha, HB, QA, Qz, Qe, Qm, QD, QL, QU0, QU1, QU2, QU3, QU4, QV0, QV1, QV2, QV3, QV4⟩ hb_ hon hoff
   refine ⟨_, rfl, fun K hK => ?_⟩
   have e4 : a.tmps[12]? = some (.pointer (some ⟨g1, 2, none⟩)) := by rw [ha]; exact putSel_on (e := (9, 12, .pointer (some ⟨g1, 2, none⟩))) 9 rfl rfl (hon 9 (by kernel_rfl)) rfl
   have hc : w'.cell? ⟨g1, 2, none⟩ = some (.slice A0_2 l0_2.length c0_2) := (Bk.cell QA 2).trans rfl
   have HX := Ak QA
   replace ha := Ak ha
   refine value_ (w1 := w') (v := .slice A0_2 l0_2.length c0_2) (by rfl) rfl ?_ ?_
   ·go_simp
    try rfl
   refine hK.out _ _ ⟨u0, u1, u2, u3, u4, v0, v1, v2, v3, v4, m, D, (by rw [ha.out]; exact putSel_upk 10 hb_ rfl rfl rfl), HB, HX.out, Qz, fun h0_ => absurd ((hoff 21 (by kernel_rfl)).symm.trans h0_) (by decide), fun h0_ => absurd ((hoff 20 (by kernel_rfl)).symm.trans h0_) (by decide), QD, QL, QU0, QU1, QU2, QU3, QU4, QV0, QV1, fun h0_ => absurd ((hoff 11 (by kernel_rfl)).symm.trans h0_) (by decide), QV3, QV4⟩
  refine steps_cons ?_ ?_
  ·rintro b a w' ⟨u0, u1, u2, u3, u4, v0, v1, v2, v3, v4, m, D, ha, HB, QA, Qz, Qe, Qm, QD, QL, QU0, QU1, QU2, QU3, QU4, QV0, QV1, QV2, QV3, QV4⟩ hb_ hon hoff
   refine ⟨_, rfl, fun K hK => ?_⟩
   have e3 : a.tmps[11]? = some u2 := by rw [ha]; exact putSel_on (e := (8, 11, u2)) 8 rfl rfl (hon 8 (by kernel_rfl)) rfl
   have e5 : a.tmps[13]? = some (.slice A0_2 l0_2.length c0_2) := by rw [ha]; exact putSel_on (e := (10, 13, .slice A0_2 l0_2.length c0_2)) 10 rfl rfl (hon 10 (by kernel_rfl)) rfl
   have hU := QU2 (hon 8 (by kernel_rfl)) hb_
   refine Kd.R_append_rows_step (Kd.int .i64) (w0 := w) w.heap.size (by rfl) (.tmp 11) (.tmp 13) 24 3 (.int .i64 0) 8 rfl Try.underlying24 info3 rfl (by decide) (by omega) u2 ([] : List Int) l0_2 A0_2 l0_2.length c0_2 (fun k => D 2 k ∨ w'.heap.size ≤ k) (fun _ => False) (eval_of e3) (eval_of e5) (Kd.R_mono hU (fun _ h_ => .inl h_)) (Kd.C_below HR2.out HB) (fun _ _ h_ => h_) (fun _ h_ => h_.elim) (fun _ h_ => .inr h_) HB HB.size (by have := HL2.out; simp; omega) ?_
   intro x w5 ho hb5 hg5 hn5
   rw [List.nil_append] at ho
   have hne1 : some g1 ≠ (u2 : Value).ownBlock := Kd.R_ne hU QA (by decide)
   have hne2 := fun h_ => (Kd.R_ne hU (Qz h_) (by decide) : some g2 ≠ (u2 : Value).ownBlock)
   have hU0 := hU.1
   obtain ⟨D', hDi, hDj⟩ : ∃ D' : Nat → Nat → Prop, (∀ k, D' 2 k ↔ D 2 k ∨ (w'.heap.size ≤ k ∧ k < w5.heap.size)) ∧ ∀ j, j ≠ 2 → ∀ k, D' j k ↔ D j k := ⟨fun j k => if j = 2 then D 2 k ∨ (w'.heap.size ≤ k ∧ k < w5.heap.size) else D j k, fun k => by simp, fun j hj k => by simp [hj]⟩
   have hold : ∀ j, j ≠ 2 → ∀ k, D j k → D' j k := fun j hj k hk => (hDj j hj k).2 hk
   have hDD : ∀ i j k, D' i k → D' j k → i = j := growD QD QL hDi hDj
   have hLL : ∀ i k, D' i k → k < w5.heap.size := growL QL hDi hDj hg5.size
   have hap : ∀ j, j ≠ 2 → ∀ k, D j k → some k ≠ (u2 : Value).ownBlock := fun j hj k hk e_ => hj (QD j 2 k hk (hU0 k e_.symm))
   have hnew := R_raise (b' := w.heap.size) (ok' := D' 2) ho (fun k hk => ⟨Kd.R_base ho k hk, (hDi k).2 (by rcases ho.1 k hk with h_ | h_; exact .inl h_; exact .inr ⟨h_, Kd.R_lt ho k hk⟩)⟩)
   refine hK.out _ _ ⟨u0, u1, u2, u3, u4, v0, v1, x, v3, v4, m, D', (by rw [ha]; exact putSel_upk 11 hb_ rfl rfl rfl), hb5, blk_grown QA hg5 hne1, fun h_ => blk_grown (Qz h_) hg5 (hne2 h_), fun h0_ => absurd ((hoff 21 (by kernel_rfl)).symm.trans h0_) (by decide), fun h0_ => absurd ((hoff 20 (by kernel_rfl)).symm.trans h0_) (by decide), hDD, hLL, fun h_ h2_ => Kd.R_mono (Kd.R_grown (QU0 h_ h2_) hg5 (hap 0 (by decide))) (fun k hk => hold 0 (by decide) k hk), fun h_ h2_ => Kd.R_mono (Kd.R_grown (QU1 h_ h2_) hg5 (hap 1 (by decide))) (fun k hk => hold 1 (by decide) k hk), fun h_ h2_ => absurd h2_ (by rw [up_self]; decide), fun h_ h2_ => Kd.R_mono (Kd.R_grown (QU3 h_ h2_) hg5 (hap 3 (by decide))) (fun k hk => hold 3 (by decide) k hk), fun h_ h2_ => Kd.R_mono (Kd.R_grown (QU4 h_ h2_) hg5 (hap 4 (by decide))) (fun k hk => hold 4 (by decide) k hk), fun h_ => Kd.R_mono (Kd.R_grown (QV0 h_) hg5 (hap 0 (by decide))) (fun k hk => hold 0 (by decide) k hk), fun h_ => Kd.R_mono (Kd.R_grown (QV1 h_) hg5 (hap 1 (by decide))) (fun k hk => hold 1 (by decide) k hk), fun _ => hnew, fun h_ => Kd.R_mono (Kd.R_grown (QV3 h_) hg5 (hap 3 (by decide))) (fun k hk => hold 3 (by decide) k hk), fun h_ => Kd.R_mono (Kd.R_grown (QV4 h_) hg5 (hap 4 (by decide))) (fun k hk => hold 4 (by decide) k hk)⟩
  refine steps_cons ?_ ?_
  ·rintro b a w' ⟨u0, u1, u2, u3, u4, v0, v1, v2, v3, v4, m, D, ha, HB, QA, Qz, Qe, Qm, QD, QL, QU0, QU1, QU2, QU3, QU4, QV0, QV1, QV2, QV3, QV4⟩ hb_ hon hoff
   refine ⟨_, rfl, fun K hK => ?_⟩
   refine Kd.R_lit_step (Kd.int .i64) (w0 := w') w'.heap.size 3 (by rfl) (N := 15) rfl (xs := ([] : List Int)) (inner := []) (ok := fun k => k = w'.heap.size ∨ w'.heap.size ≤ k) (okp := fun _ => False) (by first | (go_simp; done) | (go_simp; rfl)) ⟨rfl, fun j p hj => by simp at hj⟩ (fun _ hk => hk.elim) (.inl rfl) (Below.refl _ _) (Nat.le_refl _) (by simp) ?_
   intro x w5 ho hb5 hg5 hn5
   have hfit := HB.size
   obtain ⟨D', hDi, hDj⟩ : ∃ D' : Nat → Nat → Prop, (∀ k, D' 3 k ↔ w'.heap.size ≤ k ∧ k < w5.heap.size) ∧ ∀ j, j ≠ 3 → ∀ k, D' j k ↔ D j k := ⟨fun j k => if j = 3 then w'.heap.size ≤ k ∧ k < w5.heap.size else D j k, fun k => by simp, fun j hj k => by simp [hj]⟩
   have hold : ∀ j, j ≠ 3 → ∀ k, D j k → D' j k := fun j hj k hk => (hDj j hj k).2 hk
   have hDD : ∀ i j k, D' i k → D' j k → i = j := newD QD QL hDi hDj
   have hLL : ∀ i k, D' i k → k < w5.heap.size := newL QL hDi hDj hb5.size
   have hnew := R_raise (b' := w.heap.size) (ok' := D' 3) ho (fun k hk => ⟨by have := Kd.R_base ho k hk; omega, (hDi k).2 ⟨Kd.R_base ho k hk, Kd.R_lt ho k hk⟩⟩)
   refine hK.out _ _ ⟨u0, u1, u2, x, u4, v0, v1, v2, v3, v4, m, D', (by rw [ha]; exact putSel_upk 12 hb_ rfl rfl rfl), below_step HB hb5, Bk.below QA hb5, fun h_ => Bk.below (Qz h_) hb5, fun h0_ => absurd ((hoff 21 (by kernel_rfl)).symm.trans h0_) (by decide), fun h0_ => absurd ((hoff 20 (by kernel_rfl)).symm.trans h0_) (by decide), hDD, hLL, fun h_ h2_ => Kd.R_mono (Kd.R_below (QU0 h_ h2_) hb5) (fun k hk => hold 0 (by decide) k hk), fun h_ h2_ => Kd.R_mono (Kd.R_below (QU1 h_ h2_) hb5) (fun k hk => hold 1 (by decide) k hk), fun h_ h2_ => Kd.R_mono (Kd.R_below (QU2 h_ h2_) hb5) (fun k hk => hold 2 (by decide) k hk), fun _ _ => hnew, fun h_ h2_ => Kd.R_mono (Kd.R_below (QU4 h_ h2_) hb5) (fun k hk => hold 4 (by decide) k hk), fun h_ => Kd.R_mono (Kd.R_below (QV0 h_) hb5) (fun k hk => hold 0 (by decide) k hk), fun h_ => Kd.R_mono (Kd.R_below (QV1 h_) hb5) (fun k hk => hold 1 (by decide) k hk), fun h_ => Kd.R_mono (Kd.R_below (QV2 h_) hb5) (fun k hk => hold 2 (by decide) k hk), fun h0_ => absurd ((hoff 15 (by kernel_rfl)).symm.trans h0_) (by decide), fun h_ => Kd.R_mono (Kd.R_below (QV4 h_) hb5) (fun k hk => hold 4 (by decide) k hk)⟩
  refine steps_cons ?_ ?_
  ·rintro b a w' ⟨u0, u1, u2, u3, u4, v0, v1, v2, v3, v4, m, D, ha, HB, QA, Qz, Qe, Qm, QD, QL, QU0, QU1, QU2, QU3, QU4, QV0, QV1, QV2, QV3, QV4⟩ hb_ hon hoff
   refine ⟨_, rfl, fun K hK => ?_⟩
   have e1 : a.tmps[1]? = some (.pointer (some ⟨g1, 0, none⟩)) := by rw [ha]; exact (putSel_off rfl).trans rfl
   replace ha := Ak ha
   refine value_ (w1 := w') (v := .pointer (some ⟨g1, 3, none⟩)) (by rfl) rfl ?_ ?_
   ·go_simp
    try rfl
   refine hK.out _ _ ⟨u0, u1, u2, u3, u4, v0, v1, v2, v3, v4, m, D, (by rw [ha.out]; exact putSel_upk 13 hb_ rfl rfl rfl), HB, QA, Qz, fun h0_ => absurd ((hoff 21 (by kernel_rfl)).symm.trans h0_) (by decide), fun h0_ => absurd ((hoff 20 (by kernel_rfl)).symm.trans h0_) (by decide), QD, QL, QU0, QU1, QU2, QU3, QU4, QV0, QV1, QV2, fun h0_ => absurd ((hoff 15 (by kernel_rfl)).symm.trans h0_) (by decide), QV4⟩
  refine steps_cons ?_ ?_
  ·rintro b a w' ⟨u0, u1, u2, u3, u4, v0, v1, v2, v3, v4, m, D, ha, HB, QA, Qz, Qe, Qm, QD, QL, QU0, QU1, QU2, QU3, QU4, QV0, QV1, QV2, QV3, QV4⟩ hb_ hon hoff
   refine ⟨_, rfl, fun K hK => ?_⟩
   have e4 : a.tmps[16]? = some (.pointer (some ⟨g1, 3, none⟩)) := by rw [ha]; exact putSel_on (e := (13, 16, .pointer (some ⟨g1, 3, none⟩))) 13 rfl rfl (hon 13 (by kernel_rfl)) rfl
   have hc : w'.cell? ⟨g1, 3, none⟩ = some (.slice A0_3 l0_3.length c0_3) := (Bk.cell QA 3).trans rfl
   have HX := Ak QA
   replace ha := Ak ha
   refine value_ (w1 := w') (v := .slice A0_3 l0_3.length c0_3) (by rfl) rfl ?_ ?_
   ·go_simp
    try rfl
   refine hK.out _ _ ⟨u0, u1, u2, u3, u4, v0, v1, v2, v3, v4, m, D, (by rw [ha.out]; exact putSel_upk 14 hb_ rfl rfl rfl), HB, HX.out, Qz, fun h0_ => absurd ((hoff 21 (by kernel_rfl)).symm.trans h0_) (by decide), fun h0_ => absurd ((hoff 20 (by kernel_rfl)).symm.trans h0_) (by decide), QD, QL, QU0, QU1, QU2, QU3, QU4, QV0, QV1, QV2, fun h0_ => absurd ((hoff 15 (by kernel_rfl)).symm.trans h0_) (by decide), QV4⟩
  refine steps_cons ?_ ?_
  ·rintro b a w' ⟨u0, u1, u2, u3, u4, v0, v1, v2, v3, v4, m, D, ha, HB, QA, Qz, Qe, Qm, QD, QL, QU0, QU1, QU2, QU3, QU4, QV0, QV1, QV2, QV3, QV4⟩ hb_ hon hoff
   refine ⟨_, rfl, fun K hK => ?_⟩
   have e3 : a.tmps[15]? = some u3 := by rw [ha]; exact putSel_on (e := (12, 15, u3)) 12 rfl rfl (hon 12 (by kernel_rfl)) rfl
   have e5 : a.tmps[17]? = some (.slice A0_3 l0_3.length c0_3) := by rw [ha]; exact putSel_on (e := (14, 17, .slice A0_3 l0_3.length c0_3)) 14 rfl rfl (hon 14 (by kernel_rfl)) rfl
   have hU := QU3 (hon 12 (by kernel_rfl)) hb_
   refine Kd.R_append_rows_step (Kd.int .i64) (w0 := w) w.heap.size (by rfl) (.tmp 15) (.tmp 17) 24 3 (.int .i64 0) 8 rfl Try.underlying24 info3 rfl (by decide) (by omega) u3 ([] : List Int) l0_3 A0_3 l0_3.length c0_3 (fun k => D 3 k ∨ w'.heap.size ≤ k) (fun _ => False) (eval_of e3) (eval_of e5) (Kd.R_mono hU (fun _ h_ => .inl h_)) (Kd.C_below HR3.out HB) (fun _ _ h_ => h_) (fun _ h_ => h_.elim) (fun _ h_ => .inr h_) HB HB.size (by have := HL3.out; simp; omega) ?_
   intro x w5 ho hb5 hg5 hn5
   rw [List.nil_append] at ho
   have hne1 : some g1 ≠ (u3 : Value).ownBlock := Kd.R_ne hU QA (by decide)
   have hne2 := fun h_ => (Kd.R_ne hU (Qz h_) (by decide) : some g2 ≠ (u3 : Value).ownBlock)
   have hU0 := hU.1
   obtain ⟨D', hDi, hDj⟩ : ∃ D' : Nat → Nat → Prop, (∀ k, D' 3 k ↔ D 3 k ∨ (w'.heap.size ≤ k ∧ k < w5.heap.size)) ∧ ∀ j, j ≠ 3 → ∀ k, D' j k ↔ D j k := ⟨fun j k => if j = 3 then D 3 k ∨ (w'.heap.size ≤ k ∧ k < w5.heap.size) else D j k, fun k => by simp, fun j hj k => by simp [hj]⟩
   have hold : ∀ j, j ≠ 3 → ∀ k, D j k → D' j k := fun j hj k hk => (hDj j hj k).2 hk
   have hDD : ∀ i j k, D' i k → D' j k → i = j := growD QD QL hDi hDj
   have hLL : ∀ i k, D' i k → k < w5.heap.size := growL QL hDi hDj hg5.size
   have hap : ∀ j, j ≠ 3 → ∀ k, D j k → some k ≠ (u3 : Value).ownBlock := fun j hj k hk e_ => hj (QD j 3 k hk (hU0 k e_.symm))
   have hnew := R_raise (b' := w.heap.size) (ok' := D' 3) ho (fun k hk => ⟨Kd.R_base ho k hk, (hDi k).2 (by rcases ho.1 k hk with h_ | h_; exact .inl h_; exact .inr ⟨h_, Kd.R_lt ho k hk⟩)⟩)
   refine hK.out _ _ ⟨u0, u1, u2, u3, u4, v0, v1, v2, x, v4, m, D', (by rw [ha]; exact putSel_upk 15 hb_ rfl rfl rfl), hb5, blk_grown QA hg5 hne1, fun h_ => blk_grown (Qz h_) hg5 (hne2 h_), fun h0_ => absurd ((hoff 21 (by kernel_rfl)).symm.trans h0_) (by decide), fun h0_ => absurd ((hoff 20 (by kernel_rfl)).symm.trans h0_) (by decide), hDD, hLL, fun h_ h2_ => Kd.R_mono (Kd.R_grown (QU0 h_ h2_) hg5 (hap 0 (by decide))) (fun k hk => hold 0 (by decide) k hk), fun h_ h2_ => Kd.R_mono (Kd.R_grown (QU1 h_ h2_) hg5 (hap 1 (by decide))) (fun k hk => hold 1 (by decide) k hk), fun h_ h2_ => Kd.R_mono (Kd.R_grown (QU2 h_ h2_) hg5 (hap 2 (by decide))) (fun k hk => hold 2 (by decide) k hk), fun h_ h2_ => absurd h2_ (by rw [up_self]; decide), fun h_ h2_ => Kd.R_mono (Kd.R_grown (QU4 h_ h2_) hg5 (hap 4 (by decide))) (fun k hk => hold 4 (by decide) k hk), fun h_ => Kd.R_mono (Kd.R_grown (QV0 h_) hg5 (hap 0 (by decide))) (fun k hk => hold 0 (by decide) k hk), fun h_ => Kd.R_mono (Kd.R_grown (QV1 h_) hg5 (hap 1 (by decide))) (fun k hk => hold 1 (by decide) k hk), fun h_ => Kd.R_mono (Kd.R_grown (QV2 h_) hg5 (hap 2 (by decide))) (fun k hk => hold 2 (by decide) k hk), fun _ => hnew, fun h_ => Kd.R_mono (Kd.R_grown (QV4 h_) hg5 (hap 4 (by decide))) (fun k hk => hold 4 (by decide) k hk)⟩
  refine steps_cons ?_ ?_
  ·rintro b a w' ⟨u0, u1, u2, u3, u4, v0, v1, v2, v3, v4, m, D, ha, HB, QA, Qz, Qe, Qm, QD, QL, QU0, QU1, QU2, QU3, QU4, QV0, QV1, QV2, QV3, QV4⟩ hb_ hon hoff
   refine ⟨_, rfl, fun K hK => ?_⟩
   refine Kd.R_lit_step (Kd.int .i64) (w0 := w') w'.heap.size 3 (by rfl) (N := 19) rfl (xs := ([] : List Int)) (inner := []) (ok := fun k => k = w'.heap.size ∨ w'.heap.size ≤ k) (okp := fun _ => False) (by first | (go_simp; done) | (go_simp; rfl)) ⟨rfl, fun j p hj => by simp at hj⟩ (fun _ hk => hk.elim) (.inl rfl) (Below.refl _ _) (Nat.le_refl _) (by simp) ?_
   intro x w5 ho hb5 hg5 hn5
   have hfit := HB.size
   obtain ⟨D', hDi, hDj⟩ : ∃ D' : Nat → Nat → Prop, (∀ k, D' 4 k ↔ w'.heap.size ≤ k ∧ k < w5.heap.size) ∧ ∀ j, j ≠ 4 → ∀ k, D' j k ↔ D j k := ⟨fun j k => if j = 4 then w'.heap.size ≤ k ∧ k < w5.heap.size else D j k, fun k => by simp, fun j hj k => by simp [hj]⟩
   have hold : ∀ j, j ≠ 4 → ∀ k, D j k → D' j k := fun j hj k hk => (hDj j hj k).2 hk
   have hDD : ∀ i j k, D' i k → D' j k → i = j := newD QD QL hDi hDj
   have hLL : ∀ i k, D' i k → k < w5.heap.size := newL QL hDi hDj hb5.size
   have hnew := R_raise (b' := w.heap.size) (ok' := D' 4) ho (fun k hk => ⟨by have := Kd.R_base ho k hk; omega, (hDi k).2 ⟨Kd.R_base ho k hk, Kd.R_lt ho k hk⟩⟩)
   refine hK.out _ _ ⟨u0, u1, u2, u3, x, v0, v1, v2, v3, v4, m, D', (by rw [ha]; exact putSel_upk 16 hb_ rfl rfl rfl), below_step HB hb5, Bk.below QA hb5, fun h_ => Bk.below (Qz h_) hb5, fun h0_ => absurd ((hoff 21 (by kernel_rfl)).symm.trans h0_) (by decide), fun h0_ => absurd ((hoff 20 (by kernel_rfl)).symm.trans h0_) (by decide), hDD, hLL, fun h_ h2_ => Kd.R_mono (Kd.R_below (QU0 h_ h2_) hb5) (fun k hk => hold 0 (by decide) k hk), fun h_ h2_ => Kd.R_mono (Kd.R_below (QU1 h_ h2_) hb5) (fun k hk => hold 1 (by decide) k hk), fun h_ h2_ => Kd.R_mono (Kd.R_below (QU2 h_ h2_) hb5) (fun k hk => hold 2 (by decide) k hk), fun h_ h2_ => Kd.R_mono (Kd.R_below (QU3 h_ h2_) hb5) (fun k hk => hold 3 (by decide) k hk), fun _ _ => hnew, fun h_ => Kd.R_mono (Kd.R_below (QV0 h_) hb5) (fun k hk => hold 0 (by decide) k hk), fun h_ => Kd.R_mono (Kd.R_below (QV1 h_) hb5) (fun k hk => hold 1 (by decide) k hk), fun h_ => Kd.R_mono (Kd.R_below (QV2 h_) hb5) (fun k hk => hold 2 (by decide) k hk), fun h_ => Kd.R_mono (Kd.R_below (QV3 h_) hb5) (fun k hk => hold 3 (by decide) k hk), fun h0_ => absurd ((hoff 19 (by kernel_rfl)).symm.trans h0_) (by decide)⟩
  refine steps_cons ?_ ?_
  ·rintro b a w' ⟨u0, u1, u2, u3, u4, v0, v1, v2, v3, v4, m, D, ha, HB, QA, Qz, Qe, Qm, QD, QL, QU0, QU1, QU2, QU3, QU4, QV0, QV1, QV2, QV3, QV4⟩ hb_ hon hoff
   refine ⟨_, rfl, fun K hK => ?_⟩
   have e1 : a.tmps[1]? = some (.pointer (some ⟨g1, 0, none⟩)) := by rw [ha]; exact (putSel_off rfl).trans rfl
   replace ha := Ak ha
   refine value_ (w1 := w') (v := .pointer (some ⟨g1, 4, none⟩)) (by rfl) rfl ?_ ?_
   ·go_simp
    try rfl
   refine hK.out _ _ ⟨u0, u1, u2, u3, u4, v0, v1, v2, v3, v4, m, D, (by rw [ha.out]; exact putSel_upk 17 hb_ rfl rfl rfl), HB, QA, Qz, fun h0_ => absurd ((hoff 21 (by kernel_rfl)).symm.trans h0_) (by decide), fun h0_ => absurd ((hoff 20 (by kernel_rfl)).symm.trans h0_) (by decide), QD, QL, QU0, QU1, QU2, QU3, QU4, QV0, QV1, QV2, QV3, fun h0_ => absurd ((hoff 19 (by kernel_rfl)).symm.trans h0_) (by decide)⟩
  refine steps_cons ?_ ?_
  ·rintro b a w' ⟨u0, u1, u2, u3, u4, v0, v1, v2, v3, v4, m, D, ha, HB, QA, Qz, Qe, Qm, QD, QL, QU0, QU1, QU2, QU3, QU4, QV0, QV1, QV2, QV3, QV4⟩ hb_ hon hoff
   refine ⟨_, rfl, fun K hK => ?_⟩
   have e4 : a.tmps[20]? = some (.pointer (some ⟨g1, 4, none⟩)) := by rw [ha]; exact putSel_on (e := (17, 20, .pointer (some ⟨g1, 4, none⟩))) 17 rfl rfl (hon 17 (by kernel_rfl)) rfl
   have hc : w'.cell? ⟨g1, 4, none⟩ = some (.slice A0_4 l0_4.length c0_4) := (Bk.cell QA 4).trans rfl
   have HX := Ak QA
   replace ha := Ak ha
   refine value_ (w1 := w') (v := .slice A0_4 l0_4.length c0_4) (by rfl) rfl ?_ ?_
   ·go_simp
    try rfl
   refine hK.out _ _ ⟨u0, u1, u2, u3, u4, v0, v1, v2, v3, v4, m, D, (by rw [ha.out]; exact putSel_upk 18 hb_ rfl rfl rfl), HB, HX.out, Qz, fun h0_ => absurd ((hoff 21 (by kernel_rfl)).symm.trans h0_) (by decide), fun h0_ => absurd ((hoff 20 (by kernel_rfl)).symm.trans h0_) (by decide), QD, QL, QU0, QU1, QU2, QU3, QU4, QV0, QV1, QV2, QV3, fun h0_ => absurd ((hoff 19 (by kernel_rfl)).symm.trans h0_) (by decide)⟩
  refine steps_cons ?_ ?_
  ·rintro b a w' ⟨u0, u1, u2, u3, u4, v0, v1, v2, v3, v4, m, D, ha, HB, QA, Qz, Qe, Qm, QD, QL, QU0, QU1, QU2, QU3, QU4, QV0, QV1, QV2, QV3, QV4⟩ hb_ hon hoff
   refine ⟨_, rfl, fun K hK => ?_⟩
   have e3 : a.tmps[19]? = some u4 := by rw [ha]; exact putSel_on (e := (16, 19, u4)) 16 rfl rfl (hon 16 (by kernel_rfl)) rfl
   have e5 : a.tmps[21]? = some (.slice A0_4 l0_4.length c0_4) := by rw [ha]; exact putSel_on (e := (18, 21, .slice A0_4 l0_4.length c0_4)) 18 rfl rfl (hon 18 (by kernel_rfl)) rfl
   have hU := QU4 (hon 16 (by kernel_rfl)) hb_
   refine Kd.R_append_rows_step (Kd.int .i64) (w0 := w) w.heap.size (by rfl) (.tmp 19) (.tmp 21) 24 3 (.int .i64 0) 8 rfl Try.underlying24 info3 rfl (by decide) (by omega) u4 ([] : List Int) l0_4 A0_4 l0_4.length c0_4 (fun k => D 4 k ∨ w'.heap.size ≤ k) (fun _ => False) (eval_of e3) (eval_of e5) (Kd.R_mono hU (fun _ h_ => .inl h_)) (Kd.C_below HR4.out HB) (fun _ _ h_ => h_) (fun _ h_ => h_.elim) (fun _ h_ => .inr h_) HB HB.size (by have := HL4.out; simp; omega) ?_
   intro x w5 ho hb5 hg5 hn5
   rw [List.nil_append] at ho
   have hne1 : some g1 ≠ (u4 : Value).ownBlock := Kd.R_ne hU QA (by decide)
   have hne2 := fun h_ => (Kd.R_ne hU (Qz h_) (by decide) : some g2 ≠ (u4 : Value).ownBlock)
   have hU0 := hU.1
   obtain ⟨D', hDi, hDj⟩ : ∃ D' : Nat → Nat → Prop, (∀ k, D' 4 k ↔ D 4 k ∨ (w'.heap.size ≤ k ∧ k < w5.heap.size)) ∧ ∀ j, j ≠ 4 → ∀ k, D' j k ↔ D j k := ⟨fun j k => if j = 4 then D 4 k ∨ (w'.heap.size ≤ k ∧ k < w5.heap.size) else D j k, fun k => by simp, fun j hj k => by simp [hj]⟩
   have hold : ∀ j, j ≠ 4 → ∀ k, D j k → D' j k := fun j hj k hk => (hDj j hj k).2 hk
   have hDD : ∀ i j k, D' i k → D' j k → i = j := growD QD QL hDi hDj
   have hLL : ∀ i k, D' i k → k < w5.heap.size := growL QL hDi hDj hg5.size
   have hap : ∀ j, j ≠ 4 → ∀ k, D j k → some k ≠ (u4 : Value).ownBlock := fun j hj k hk e_ => hj (QD j 4 k hk (hU0 k e_.symm))
   have hnew := R_raise (b' := w.heap.size) (ok' := D' 4) ho (fun k hk => ⟨Kd.R_base ho k hk, (hDi k).2 (by rcases ho.1 k hk with h_ | h_; exact .inl h_; exact .inr ⟨h_, Kd.R_lt ho k hk⟩)⟩)
   refine hK.out _ _ ⟨u0, u1, u2, u3, u4, v0, v1, v2, v3, x, m, D', (by rw [ha]; exact putSel_upk 19 hb_ rfl rfl rfl), hb5, blk_grown QA hg5 hne1, fun h_ => blk_grown (Qz h_) hg5 (hne2 h_), fun h0_ => absurd ((hoff 21 (by kernel_rfl)).symm.trans h0_) (by decide), fun h0_ => absurd ((hoff 20 (by kernel_rfl)).symm.trans h0_) (by decide), hDD, hLL, fun h_ h2_ => Kd.R_mono (Kd.R_grown (QU0 h_ h2_) hg5 (hap 0 (by decide))) (fun k hk => hold 0 (by decide) k hk), fun h_ h2_ => Kd.R_mono (Kd.R_grown (QU1 h_ h2_) hg5 (hap 1 (by decide))) (fun k hk => hold 1 (by decide) k hk), fun h_ h2_ => Kd.R_mono (Kd.R_grown (QU2 h_ h2_) hg5 (hap 2 (by decide))) (fun k hk => hold 2 (by decide) k hk), fun h_ h2_ => Kd.R_mono (Kd.R_grown (QU3 h_ h2_) hg5 (hap 3 (by decide))) (fun k hk => hold 3 (by decide) k hk), fun h_ h2_ => absurd h2_ (by rw [up_self]; decide), fun h_ => Kd.R_mono (Kd.R_grown (QV0 h_) hg5 (hap 0 (by decide))) (fun k hk => hold 0 (by decide) k hk), fun h_ => Kd.R_mono (Kd.R_grown (QV1 h_) hg5 (hap 1 (by decide))) (fun k hk => hold 1 (by decide) k hk), fun h_ => Kd.R_mono (Kd.R_grown (QV2 h_) hg5 (hap 2 (by decide))) (fun k hk => hold 2 (by decide) k hk), fun h_ => Kd.R_mono (Kd.R_grown (QV3 h_) hg5 (hap 3 (by decide))) (fun k hk => hold 3 (by decide) k hk), fun _ => hnew⟩
  refine steps_cons ?_ ?_
  ·rintro b a w' ⟨u0, u1, u2, u3, u4, v0, v1, v2, v3, v4, m, D, ha, HB, QA, Qz, Qe, Qm, QD, QL, QU0, QU1, QU2, QU3, QU4, QV0, QV1, QV2, QV3, QV4⟩ hb_ hon hoff
   refine ⟨_, rfl, fun K hK => ?_⟩
   have e0 : a.tmps[6]? = some v0 := by rw [ha]; exact putSel_on (e := (3, 6, v0)) 3 rfl rfl (hon 3 (by kernel_rfl)) rfl
   have e1 : a.tmps[10]? = some v1 := by rw [ha]; exact putSel_on (e := (7, 10, v1)) 7 rfl rfl (hon 7 (by kernel_rfl)) rfl
   have e2 : a.tmps[14]? = some v2 := by rw [ha]; exact putSel_on (e := (11, 14, v2)) 11 rfl rfl (hon 11 (by kernel_rfl)) rfl
   have e3 : a.tmps[18]? = some v3 := by rw [ha]; exact putSel_on (e := (15, 18, v3)) 15 rfl rfl (hon 15 (by kernel_rfl)) rfl
   have e4 : a.tmps[22]? = some v4 := by rw [ha]; exact putSel_on (e := (19, 22, v4)) 19 rfl rfl (hon 19 (by kernel_rfl)) rfl
   replace ha := Ak ha
   obtain ⟨A0, c0, eo_⟩ := Kd.R_slice (QV0 (hon 3 (by kernel_rfl)))
   subst eo_
   obtain ⟨A1, c1, eo_⟩ := Kd.R_slice (QV1 (hon 7 (by kernel_rfl)))
   subst eo_
   obtain ⟨A2, c2, eo_⟩ := Kd.R_slice (QV2 (hon 11 (by kernel_rfl)))
   subst eo_
   obtain ⟨A3, c3, eo_⟩ := Kd.R_slice (QV3 (hon 15 (by kernel_rfl)))
   subst eo_
   obtain ⟨A4, c4, eo_⟩ := Kd.R_slice (QV4 (hon 19 (by kernel_rfl)))
   subst eo_
   refine value_ (w1 := w') (v := .agg #[.slice A0 l0_0.length c0, .slice A1 l0_1.length c1, .slice A2 l0_2.length c2, .slice A3 l0_3.length c3, .slice A4 l0_4.length c4]) (by rfl) rfl ?_ ?_
   ·go_simp
    try rfl
   refine hK.out _ _ ⟨u0, u1, u2, u3, u4, .slice A0 l0_0.length c0, .slice A1 l0_1.length c1, .slice A2 l0_2.length c2, .slice A3 l0_3.length c3, .slice A4 l0_4.length c4, (.agg #[.slice A0 l0_0.length c0, .slice A1 l0_1.length c1, .slice A2 l0_2.length c2, .slice A3 l0_3.length c3, .slice A4 l0_4.length c4]), D, (by rw [ha.out]; exact putSel_upk 20 hb_ rfl rfl rfl), HB, QA, Qz, fun h0_ => absurd ((hoff 21 (by kernel_rfl)).symm.trans h0_) (by decide), fun _ => rfl, QD, QL, QU0, QU1, QU2, QU3, QU4, QV0, QV1, QV2, QV3, QV4⟩
  refine steps_cons ?_ ?_
  ·rintro b a w' ⟨u0, u1, u2, u3, u4, v0, v1, v2, v3, v4, m, D, ha, HB, QA, Qz, Qe, Qm, QD, QL, QU0, QU1, QU2, QU3, QU4, QV0, QV1, QV2, QV3, QV4⟩ hb_ hon hoff
   refine ⟨_, rfl, fun K hK => ?_⟩
   have e0 : a.tmps[2]? = some (.pointer (some ⟨g2, 0, none⟩)) := by rw [ha]; exact (putSel_off rfl).trans rfl
   have e6 : a.tmps[23]? = some m := by rw [ha]; exact putSel_on (e := (20, 23, m)) 20 rfl rfl (hon 20 (by kernel_rfl)) rfl
   rw [Qm (hon 20 (by kernel_rfl))] at e6
   have hone0 : (v0 : Value).oneCell' = true := by obtain ⟨A_, c_, e_⟩ := Kd.R_slice (QV0 (hon 3 (by kernel_rfl))); rw [e_]; rfl
   have hone1 : (v1 : Value).oneCell' = true := by obtain ⟨A_, c_, e_⟩ := Kd.R_slice (QV1 (hon 7 (by kernel_rfl))); rw [e_]; rfl
   have hone2 : (v2 : Value).oneCell' = true := by obtain ⟨A_, c_, e_⟩ := Kd.R_slice (QV2 (hon 11 (by kernel_rfl))); rw [e_]; rfl
   have hone3 : (v3 : Value).oneCell' = true := by obtain ⟨A_, c_, e_⟩ := Kd.R_slice (QV3 (hon 15 (by kernel_rfl))); rw [e_]; rfl
   have hone4 : (v4 : Value).oneCell' = true := by obtain ⟨A_, c_, e_⟩ := Kd.R_slice (QV4 (hon 19 (by kernel_rfl))); rw [e_]; rfl
   have hty0 := (Kd.R_ne (QV0 (hon 3 (by kernel_rfl))) (Qz hb_) (by decide) : some g2 ≠ (v0 : Value).ownBlock)
   have hty1 := (Kd.R_ne (QV1 (hon 7 (by kernel_rfl))) (Qz hb_) (by decide) : some g2 ≠ (v1 : Value).ownBlock)
   have hty2 := (Kd.R_ne (QV2 (hon 11 (by kernel_rfl))) (Qz hb_) (by decide) : some g2 ≠ (v2 : Value).ownBlock)
   have hty3 := (Kd.R_ne (QV3 (hon 15 (by kernel_rfl))) (Qz hb_) (by decide) : some g2 ≠ (v3 : Value).ownBlock)
   have hty4 := (Kd.R_ne (QV4 (hon 19 (by kernel_rfl))) (Qz hb_) (by decide) : some g2 ≠ (v4 : Value).ownBlock)
   refine wp_storeRow_step (by rfl) rfl rfl (eval_of e0) (eval_of e6) (Qz hb_) (by kernel_rfl) rfl (by simp [hone0, hone1, hone2, hone3, hone4]) ?_
   intro w5 hk5 hg5
   refine hK.out _ _ ⟨u0, u1, u2, u3, u4, v0, v1, v2, v3, v4, m, D, (by rw [ha]; exact putSel_none (v := undef) rfl), below_row HB hg5 HGE.out, blk_row QA hg5 (by intro e_; have := HG12.out; omega), fun h_ => absurd h_ (by rw [up_self]; decide), fun _ => hk5, Qm, QD, fun i k hk => by have := QL i k hk; have := hg5.2; omega, fun h_ h2_ => absurd (hon 3 (by kernel_rfl)) (by rw [show b 3 = false from h2_]; decide), fun h_ h2_ => absurd (hon 7 (by kernel_rfl)) (by rw [show b 7 = false from h2_]; decide), fun h_ h2_ => absurd (hon 11 (by kernel_rfl)) (by rw [show b 11 = false from h2_]; decide), fun h_ h2_ => absurd (hon 15 (by kernel_rfl)) (by rw [show b 15 = false from h2_]; decide), fun h_ h2_ => absurd (hon 19 (by kernel_rfl)) (by rw [show b 19 = false from h2_]; decide), fun h_ => R_row (fun h => h) (QV0 h_) hg5 hty0, fun h_ => R_row (fun h => h) (QV1 h_) hg5 hty1, fun h_ => R_row (fun h => h) (QV2 h_) hg5 hty2, fun h_ => R_row (fun h => h) (QV3 h_) hg5 hty3, fun h_ => R_row (fun h => h) (QV4 h_) hg5 hty4⟩
  exact steps_nil
 rintro b a w25 hall ⟨u0, u1, u2, u3, u4, v0, v1, v2, v3, v4, m, D, ha, HB, QA, Qz, Qe, Qm, QD, QL, QU0, QU1, QU2, QU3, QU4, QV0, QV1, QV2, QV3, QV4⟩
 have hb0_ := hall 0 (by kernel_rfl)
 have hb1_ := hall 1 (by kernel_rfl)
 have hb2_ := hall 2 (by kernel_rfl)
 have hb3_ := hall 3 (by kernel_rfl)
 have hb4_ := hall 4 (by kernel_rfl)
 have hb5_ := hall 5 (by kernel_rfl)
 have hb6_ := hall 6 (by kernel_rfl)
 have hb7_ := hall 7 (by kernel_rfl)
 have hb8_ := hall 8 (by kernel_rfl)
 have hb9_ := hall 9 (by kernel_rfl)
 have hb10_ := hall 10 (by kernel_rfl)
 have hb11_ := hall 11 (by kernel_rfl)
 have hb12_ := hall 12 (by kernel_rfl)
 have hb13_ := hall 13 (by kernel_rfl)
 have hb14_ := hall 14 (by kernel_rfl)
 have hb15_ := hall 15 (by kernel_rfl)
 have hb16_ := hall 16 (by kernel_rfl)
 have hb17_ := hall 17 (by kernel_rfl)
 have hb18_ := hall 18 (by kernel_rfl)
 have hb19_ := hall 19 (by kernel_rfl)
 have hb20_ := hall 20 (by kernel_rfl)
 have hb21_ := hall 21 (by kernel_rfl)
 subst ha
 obtain rfl := Qm hb20_
 simp only [putSel, hb0_, hb1_, hb2_, hb3_, hb4_, hb5_, hb6_, hb7_, hb8_, hb9_, hb10_, hb11_, hb12_, hb13_, hb14_, hb15_, hb16_, hb17_, hb18_, hb19_, hb20_, hb21_, if_true, Act.put, List.setIfInBounds_toArray, List.set_cons_zero, List.set_cons_succ]
 have HV0 := Ak (QV0 hb3_)
 have HV1 := Ak (QV1 hb7_)
 have HV2 := Ak (QV2 hb11_)
 have HV3 := Ak (QV3 hb15_)
 have HV4 := Ak (QV4 hb19_)
 have BKf := Ak (Qe hb21_)
 have HBf := Ak HB
 have HDf := Ak QD
 clear QA QU0 QU1 QU2 QU3 QU4 Qz Qe Qm QD QL HB QV0 QV1 QV2 QV3 QV4 hall hb0_ hb1_ hb2_ hb3_ hb4_ hb5_ hb6_ hb7_ hb8_ hb9_ hb10_ hb11_ hb12_ hb13_ hb14_ hb15_ hb16_ hb17_ hb18_ hb19_ hb20_ hb21_
 try go_wp2
 refine bodyPost_ret (results_cell_row rfl _ _ g2 26 #[v0, v1, v2, v3, v4] (0, 0) _ rfl BKf.out Try.underlying26 rfl (by kernel_rfl)) rfl ?_
 have o0 := HV0.out.1
 have o1 := HV1.out.1
 have o2 := HV2.out.1
 have o3 := HV3.out.1
 have o4 := HV4.out.1
 exact ⟨v0, v1, v2, v3, v4, rfl, R_raise HV0.out (fun k hk => ⟨Kd.R_base HV0.out k hk, (fun e_ => absurd (HDf.out 0 1 k (o0 k hk) (o1 k e_.symm)) (by decide))⟩), R_raise HV1.out (fun k hk => ⟨Kd.R_base HV1.out k hk, (fun e_ => absurd (HDf.out 1 0 k (o1 k hk) (o0 k e_.symm)) (by decide))⟩), R_raise HV2.out (fun k hk => ⟨Kd.R_base HV2.out k hk, ⟨(fun e_ => absurd (HDf.out 2 3 k (o2 k hk) (o3 k e_.symm)) (by decide)), (fun e_ => absurd (HDf.out 2 4 k (o2 k hk) (o4 k e_.symm)) (by decide))⟩⟩), R_raise HV3.out (fun k hk => ⟨Kd.R_base HV3.out k hk, ⟨(fun e_ => absurd (HDf.out 3 2 k (o3 k hk) (o2 k e_.symm)) (by decide)), (fun e_ => absurd (HDf.out 3 4 k (o3 k hk) (o4 k e_.symm)) (by decide))⟩⟩), R_raise HV4.out (fun k hk => ⟨Kd.R_base HV4.out k hk, ⟨(fun e_ => absurd (HDf.out 4 2 k (o4 k hk) (o2 k e_.symm)) (by decide)), (fun e_ => absurd (HDf.out 4 3 k (o4 k hk) (o3 k e_.symm)) (by decide))⟩⟩), HBf.out⟩
end Go.Proofs.Ytmekkapacbdbeaa.P
namespace Go.Proofs.Ytmekkapacbdbeaa.P
open Go.RowKit Go.Proofs.YtmekkapacbdbeaaW.PrintWords Go.Proofs.YtmekkapacbdbeaaW.PrintLast Go.Proofs.YtmekkapacbdbeaaW.PrintMore
set_option linter.unusedVariables false
set_option linter.unusedSimpArgs false
end Go.Proofs.Ytmekkapacbdbeaa.P
namespace Go.Proofs.Ytmekkapacbdbeaa.P
open Go.RowKit Go.Proofs.YtmekkapacbdbeaaW.PrintWords Go.Proofs.YtmekkapacbdbeaaW.PrintLast Go.Proofs.YtmekkapacbdbeaaW.PrintMore
set_option linter.unusedVariables false
set_option linter.unusedSimpArgs false
end Go.Proofs.Ytmekkapacbdbeaa.P
namespace Go.Proofs.Ytmekkapacbdbeaa.P
open Go.RowKit Go.Proofs.YtmekkapacbdbeaaW.PrintWords Go.Proofs.YtmekkapacbdbeaaW.PrintLast Go.Proofs.YtmekkapacbdbeaaW.PrintMore
attribute [local go_sem] max2_int min2_int max_two min_two max_three min_three max_four min_four   
set_option linter.unusedVariables false
set_option linter.unusedSimpArgs false
end Go.Proofs.Ytmekkapacbdbeaa.P
namespace Go.Proofs.Ytmekkapacbdbeaa.P
open Go.RowKit Go.Proofs.YtmekkapacbdbeaaW.PrintWords Go.Proofs.YtmekkapacbdbeaaW.PrintLast Go.Proofs.YtmekkapacbdbeaaW.PrintMore
attribute [local go_sem] max2_int min2_int max_two min_two max_three min_three max_four min_four   
set_option linter.unusedVariables false
set_option linter.unusedSimpArgs false
def spec_StoreSync.f (k : Nat) (l0_0 : List ByteArray) (l0_1 : List ByteArray) (l0_2 : List Int) (l0_3 : List Int) (l0_4 : List Int) : Option (List ByteArray × List ByteArray × List Int × List Int × List Int) := (spec_StoreOk.f k l0_0 l0_1 l0_2 l0_3 l0_4).bind fun t246 => (if t246 = true then ((spec_l5Copy.f l0_0 l0_1 l0_2 l0_3 l0_4).bind fun bt247 => ((some (([] : List ByteArray) : List ByteArray)).bind fun y263 => (if y263.length + l0_0.length < 8796093022208 then ((some (([] : List Int) : List Int)).bind fun y269 => (if y269.length + l0_2.length < 17592186044416 then (some (bt247.1, (y263 ++ l0_0), bt247.2.2.1, (y269 ++ l0_2), bt247.2.2.2.2)) else (none))) else (none)))) else (some (([] : List ByteArray), ([] : List ByteArray), ([] : List Int), ([] : List Int), ([] : List Int))))
set_option maxHeartbeats 8000000 in
set_option maxRecDepth 100000 in
theorem spec_StoreSync.calls (k : Nat) (A0_0 : Option Addr) (c0_0 : Nat) (l0_0 : List ByteArray) (A0_1 : Option Addr) (c0_1 : Nat) (l0_1 : List ByteArray) (A0_2 : Option Addr) (c0_2 : Nat) (l0_2 : List Int) (A0_3 : Option Addr) (c0_3 : Nat) (l0_3 : List Int) (A0_4 : Option Addr) (c0_4 : Nat) (l0_4 : List Int) (r1 : List ByteArray) (r2 : List ByteArray) (r3 : List Int) (r4 : List Int) (r5 : List Int) (w : World) (hr0_0 : Kd.C Kd.string w A0_0 l0_0.length l0_0) (hc0_0 : l0_0.length ≤ c0_0) (hr0_1 : Kd.C Kd.string w A0_1 l0_1.length l0_1) (hc0_1 : l0_1.length ≤ c0_1) (hr0_2 : Kd.C (Kd.int .i64) w A0_2 l0_2.length l0_2) (hc0_2 : l0_2.length ≤ c0_2) (hr0_3 : Kd.C (Kd.int .i64) w A0_3 l0_3.length l0_3) (hc0_3 : l0_3.length ≤ c0_3) (hr0_4 : Kd.C (Kd.int .i64) w A0_4 l0_4.length l0_4) (hc0_4 : l0_4.length ≤ c0_4) (h : spec_StoreSync.f k l0_0 l0_1 l0_2 l0_3 l0_4 = some (r1, r2, r3, r4, r5)) :
  Calls Try.prog 36 #[.agg #[.slice A0_0 l0_0.length c0_0, .slice A0_1 l0_1.length c0_1, .slice A0_2 l0_2.length c0_2, .slice A0_3 l0_3.length c0_3, .slice A0_4 l0_4.length c0_4]] w fun e w' => ∃ v0_ v1_ v2_ v3_ v4_ : Value, e = .returned (.agg #[v0_, v1_, v2_, v3_, v4_]) ∧ Kd.R Kd.string 9 w' w.heap.size (fun k_ => some k_ ≠ (v1_ : Value).ownBlock) v0_ r1 ∧ Kd.R Kd.string 9 w' w.heap.size (fun k_ => some k_ ≠ (v0_ : Value).ownBlock) v1_ r2 ∧ Kd.R (Kd.int .i64) 3 w' w.heap.size (fun k_ => some k_ ≠ (v3_ : Value).ownBlock ∧ some k_ ≠ (v4_ : Value).ownBlock) v2_ r3 ∧ Kd.R (Kd.int .i64) 3 w' w.heap.size (fun k_ => some k_ ≠ (v2_ : Value).ownBlock ∧ some k_ ≠ (v4_ : Value).ownBlock) v3_ r4 ∧ Kd.R (Kd.int .i64) 3 w' w.heap.size (fun k_ => some k_ ≠ (v2_ : Value).ownBlock ∧ some k_ ≠ (v3_ : Value).ownBlock) v4_ r5 ∧ Below w.heap.size w w' := by
 have hu26 := Try.underlying26
 have HR0_0 := Ak hr0_0
 have HC0_0 := Ak hc0_0
 clear hr0_0 hc0_0
 have HR0_1 := Ak hr0_1
 have HC0_1 := Ak hc0_1
 clear hr0_1 hc0_1
 have HR0_2 := Ak hr0_2
 have HC0_2 := Ak hc0_2
 clear hr0_2 hc0_2
 have HR0_3 := Ak hr0_3
 have HC0_3 := Ak hc0_3
 clear hr0_3 hc0_3
 have HR0_4 := Ak hr0_4
 have HC0_4 := Ak hc0_4
 clear hr0_4 hc0_4
 have HB := Ak (Below.refl w.heap.size w)
 have H : ((spec_StoreOk.f k l0_0 l0_1 l0_2 l0_3 l0_4).bind fun t246 => (if t246 = true then ((spec_l5Copy.f l0_0 l0_1 l0_2 l0_3 l0_4).bind fun bt247 => ((some (([] : List ByteArray) : List ByteArray)).bind fun y263 => (if y263.length + l0_0.length < 8796093022208 then ((some (([] : List Int) : List Int)).bind fun y269 => (if y269.length + l0_2.length < 17592186044416 then (some (bt247.1, (y263 ++ l0_0), bt247.2.2.1, (y269 ++ l0_2), bt247.2.2.2.2)) else (none))) else (none)))) else (some (([] : List ByteArray), ([] : List ByteArray), ([] : List Int), ([] : List Int), ([] : List Int))))) = some (r1, r2, r3, r4, r5) := h
 clear h
 replace H := Option.bind_eq_some_iff.mp H
 obtain ⟨t246, A20, H⟩ := H
 replace H : (if t246 = true then ((spec_l5Copy.f l0_0 l0_1 l0_2 l0_3 l0_4).bind fun bt247 => ((some (([] : List ByteArray) : List ByteArray)).bind fun y263 => (if y263.length + l0_0.length < 8796093022208 then ((some (([] : List Int) : List Int)).bind fun y269 => (if y269.length + l0_2.length < 17592186044416 then (some (bt247.1, (y263 ++ l0_0), bt247.2.2.1, (y269 ++ l0_2), bt247.2.2.2.2)) else (none))) else (none)))) else (some (([] : List ByteArray), ([] : List ByteArray), ([] : List Int), ([] : List Int), ([] : List Int)))) = some (r1, r2, r3, r4, r5) := H
 have A2 := Ak A20
 clear A20
 by_cases c3 : t246 = true
 ·subst c3
  have H1 : ((spec_l5Copy.f l0_0 l0_1 l0_2 l0_3 l0_4).bind fun bt247 => ((some (([] : List ByteArray) : List ByteArray)).bind fun y263 => (if y263.length + l0_0.length < 8796093022208 then ((some (([] : List Int) : List Int)).bind fun y269 => (if y269.length + l0_2.length < 17592186044416 then (some (bt247.1, (y263 ++ l0_0), bt247.2.2.1, (y269 ++ l0_2), bt247.2.2.2.2)) else (none))) else (none)))) = some (r1, r2, r3, r4, r5) := by rw [if_pos rfl] at H; exact H
  clear H
  have H := H1
  clear H1
  replace H := Option.bind_eq_some_iff.mp H
  obtain ⟨⟨t247, t250, t253, t256, t259⟩, A40, H⟩ := H
  replace H : ((some (([] : List ByteArray) : List ByteArray)).bind fun y263 => (if y263.length + l0_0.length < 8796093022208 then ((some (([] : List Int) : List Int)).bind fun y269 => (if y269.length + l0_2.length < 17592186044416 then (some (t247, (y263 ++ l0_0), t253, (y269 ++ l0_2), t259)) else (none))) else (none))) = some (r1, r2, r3, r4, r5) := H
  have A4 := Ak A40
  clear A40
  obtain ⟨y263, hy263⟩ : ∃ y_ : List ByteArray, y_ = (([] : List ByteArray)) := ⟨_, rfl⟩
  replace H : (if y263.length + l0_0.length < 8796093022208 then ((some (([] : List Int) : List Int)).bind fun y269 => (if y269.length + l0_2.length < 17592186044416 then (some (t247, (y263 ++ l0_0), t253, (y269 ++ l0_2), t259)) else (none))) else (none)) = some (r1, r2, r3, r4, r5) := by first | (rw [hy263]; with_reducible exact H) | (have H2_ := (Option.bind_some _ _).symm.trans H; rw [hy263]; with_reducible exact H2_) | (have H2_ := (Option.bind_some _ _).symm.trans H; with_reducible exact H2_) | with_reducible exact H | (rw [hy263]; exact H) | exact H
  have Ny263 := Ak hy263
  clear hy263
  by_cases c5 : y263.length + l0_0.length < 8796093022208
  ·rw [if_pos c5] at H
   have LMc5 := Ak c5
   clear c5
   obtain ⟨y266, hy266⟩ : ∃ y_ : List ByteArray, y_ = (y263 ++ l0_0) := ⟨_, rfl⟩
   replace H : ((some (([] : List Int) : List Int)).bind fun y269 => (if y269.length + l0_2.length < 17592186044416 then (some (t247, y266, t253, (y269 ++ l0_2), t259)) else (none))) = some (r1, r2, r3, r4, r5) := by first | (rw [hy266]; with_reducible exact H) | (have H2_ := (Option.bind_some _ _).symm.trans H; rw [hy266]; with_reducible exact H2_) | (have H2_ := (Option.bind_some _ _).symm.trans H; with_reducible exact H2_) | with_reducible exact H | (rw [hy266]; exact H) | exact H
   have Ny266 := Ak hy266
   clear hy266
   obtain ⟨y269, hy269⟩ : ∃ y_ : List Int, y_ = (([] : List Int)) := ⟨_, rfl⟩
   replace H : (if y269.length + l0_2.length < 17592186044416 then (some (t247, y266, t253, (y269 ++ l0_2), t259)) else (none)) = some (r1, r2, r3, r4, r5) := by first | (rw [hy269]; with_reducible exact H) | (have H2_ := (Option.bind_some _ _).symm.trans H; rw [hy269]; with_reducible exact H2_) | (have H2_ := (Option.bind_some _ _).symm.trans H; with_reducible exact H2_) | with_reducible exact H | (rw [hy269]; exact H) | exact H
   have Ny269 := Ak hy269
   clear hy269
   by_cases c6 : y269.length + l0_2.length < 17592186044416
   ·rw [if_pos c6] at H
    have LMc6 := Ak c6
    clear c6
    obtain ⟨y272, hy272⟩ : ∃ y_ : List Int, y_ = (y269 ++ l0_2) := ⟨_, rfl⟩
    replace H : (some (t247, y266, t253, y272, t259)) = some (r1, r2, r3, r4, r5) := by first | (rw [hy272]; with_reducible exact H) | (have H2_ := (Option.bind_some _ _).symm.trans H; rw [hy272]; with_reducible exact H2_) | (have H2_ := (Option.bind_some _ _).symm.trans H; with_reducible exact H2_) | with_reducible exact H | (rw [hy272]; exact H) | exact H
    have Ny272 := Ak hy272
    clear hy272
    simp only [Option.some.injEq, Prod.mk.injEq] at H
    obtain ⟨rfl, rfl, rfl, rfl, rfl⟩ := H
    go_enter Try.func36, Try.ntmps36
    go_wp2_with (first | ((with_reducible refine gate_dst (N := 1) rfl ?_); refine box_event ?hg (N := 1) ?hd (cs := #[.slice A0_0 l0_0.length c0_0, .slice A0_1 l0_1.length c0_1, .slice A0_2 l0_2.length c0_2, .slice A0_3 l0_3.length c0_3, .slice A0_4 l0_4.length c0_4]) (t := 26) ?hr ?_; (case hd => rfl); (case hg => rfl); (case hr => first | (go_simp; done) | (go_simp; rfl)); intro gb244 hg w7 hbox hb; have n0_ := Ak (below_step (by repeat (first | (with_reducible first | exact HB.out | apply below_alloc | apply pw_below_drewN | apply below_drew1) | exact HB.out)) hb); have n1_ := Ak (hbox); have n2_ := Ak ((by rw [hg]; exact (below_size (by repeat (first | (with_reducible first | exact HB.out | apply below_alloc | apply pw_below_drewN | apply below_drew1) | exact HB.out))) : w.heap.size ≤ gb244)); have n3_ := Ak ((by rw [hg]; exact (below_size (by repeat (first | (with_reducible first | exact HB.out | apply below_alloc | apply pw_below_drewN | apply below_drew1) | exact HB.out))) : w.heap.size ≤ gb244)); clear HB; have HB := n0_; have BK244 := n1_; have GW244 := n2_; have GE244 := n3_; clear n0_ n1_ n2_ n3_; clear hb hbox hg) | ((with_reducible refine gate_dst (N := 2) rfl ?_); refine box_event ?hg (N := 2) ?hd (cs := #[.slice none 0 0, .slice none 0 0, .slice none 0 0, .slice none 0 0, .slice none 0 0]) (t := 26) ?hr ?_; (case hd => rfl); (case hg => rfl); (case hr => first | (go_simp; done) | (go_simp; rfl)); intro gb245 hg w8 hbox hb; have n0_ := Ak (blk_below (g := gb244) (o := .cells #[.slice A0_0 l0_0.length c0_0, .slice A0_1 l0_1.length c0_1, .slice A0_2 l0_2.length c0_2, .slice A0_3 l0_3.length c0_3, .slice A0_4 l0_4.length c0_4] 26 (0, 0)) (by (with_reducible repeat (first | refine blk_drewN ?_ _ | refine blk_drew ?_ | refine blk_alloc ?_ _)); exact BK244.out) hb); have n1_ := Ak (below_step (by repeat (first | (with_reducible first | exact HB.out | apply below_alloc | apply pw_below_drewN | apply below_drew1 | refine below_set ?_ GE244.out) | exact HB.out)) hb); have n2_ := Ak (hbox); have n3_ := Ak ((by rw [hg]; exact (below_size (by repeat (first | (with_reducible first | exact HB.out | apply below_alloc | apply pw_below_drewN | apply below_drew1 | refine below_set ?_ GE244.out) | exact HB.out))) : w.heap.size ≤ gb245)); have n4_ := Ak ((by rw [hg]; exact (below_size (by repeat (first | (with_reducible first | exact HB.out | apply below_alloc | apply pw_below_drewN | apply below_drew1 | refine below_set ?_ GE244.out) | exact HB.out))) : w.heap.size ≤ gb245)); have n5_ := Ak ((by rw [hg]; exact Nat.ne_of_lt (blk_lt (g := gb244) (o := .cells #[.slice A0_0 l0_0.length c0_0, .slice A0_1 l0_1.length c0_1, .slice A0_2 l0_2.length c0_2, .slice A0_3 l0_3.length c0_3, .slice A0_4 l0_4.length c0_4] 26 (0, 0)) (by (with_reducible repeat (first | refine blk_drewN ?_ _ | refine blk_drew ?_ | refine blk_alloc ?_ _)); exact BK244.out)) : gb244 ≠ gb245)); have n6_ := Ak ((by rw [hg]; exact Nat.ne_of_gt (blk_lt (g := gb244) (o := .cells #[.slice A0_0 l0_0.length c0_0, .slice A0_1 l0_1.length c0_1, .slice A0_2 l0_2.length c0_2, .slice A0_3 l0_3.length c0_3, .slice A0_4 l0_4.length c0_4] 26 (0, 0)) (by (with_reducible repeat (first | refine blk_drewN ?_ _ | refine blk_drew ?_ | refine blk_alloc ?_ _)); exact BK244.out)) : gb245 ≠ gb244)); clear BK244; clear HB; have BK244 := n0_; have HB := n1_; have BK245 := n2_; have GW245 := n3_; have GE245 := n4_; have NB244_245 := n5_; have NB245_244 := n6_; clear n0_ n1_ n2_ n3_ n4_ n5_ n6_; clear hb hbox hg; have hnb9 := NB244_245.out; have hnc9 := NB245_244.out; have hcz10_0 : w8.cell? ⟨gb244, 0, none⟩ = some (.slice A0_0 l0_0.length c0_0) := (blk_cell BK244.out 0).trans rfl; have hcz10_1 : w8.cell? ⟨gb244, 1, none⟩ = some (.slice A0_1 l0_1.length c0_1) := (blk_cell BK244.out 1).trans rfl; have hcz10_2 : w8.cell? ⟨gb244, 2, none⟩ = some (.slice A0_2 l0_2.length c0_2) := (blk_cell BK244.out 2).trans rfl; have hcz10_3 : w8.cell? ⟨gb244, 3, none⟩ = some (.slice A0_3 l0_3.length c0_3) := (blk_cell BK244.out 3).trans rfl; have hcz10_4 : w8.cell? ⟨gb244, 4, none⟩ = some (.slice A0_4 l0_4.length c0_4) := (blk_cell BK244.out 4).trans rfl; have hfz10_0 := blk_frozen BK244.out 0; have hfz10_1 := blk_frozen BK244.out 1; have hfz10_2 := blk_frozen BK244.out 2; have hfz10_3 := blk_frozen BK244.out 3; have hfz10_4 := blk_frozen BK244.out 4) | ((with_reducible refine gate_callee (f := 19) rfl ?_); refine goesL_ (some 5) rfl rfl Try.func19 (by kernel_rfl) rfl #[.agg #[.slice A0_0 l0_0.length c0_0, .slice A0_1 l0_1.length c0_1, .slice A0_2 l0_2.length c0_2, .slice A0_3 l0_3.length c0_3, .slice A0_4 l0_4.length c0_4]] rfl (by (try simp only [List.map_toArray, List.map_cons, List.map_nil]); first | done | rfl | (simp only [List.length_drop, List.length_take]; rfl)) ?_; (with_reducible refine (spec_StoreOk.calls k _ _ l0_0 _ _ l0_1 _ _ l0_2 _ _ l0_3 _ _ l0_4 true _ ?side1 ?side2 ?side3 ?side4 ?side5 ?side6 ?side7 ?side8 ?side9 ?side10 A2.out).mono ?_); (case side1 => repeat (first | exact (Kd.C_below HR0_0.out HB.out) | (with_reducible refine Kd.C_alloc ?_ _) | (with_reducible refine Kd.C_drewN ?_ _) | (with_reducible refine Kd.C_drew ?_))); (case side2 => exact HC0_0.out); (case side3 => repeat (first | exact (Kd.C_below HR0_1.out HB.out) | (with_reducible refine Kd.C_alloc ?_ _) | (with_reducible refine Kd.C_drewN ?_ _) | (with_reducible refine Kd.C_drew ?_))); (case side4 => exact HC0_1.out); (case side5 => repeat (first | exact (Kd.C_below HR0_2.out HB.out) | (with_reducible refine Kd.C_alloc ?_ _) | (with_reducible refine Kd.C_drewN ?_ _) | (with_reducible refine Kd.C_drew ?_))); (case side6 => exact HC0_2.out); (case side7 => repeat (first | exact (Kd.C_below HR0_3.out HB.out) | (with_reducible refine Kd.C_alloc ?_ _) | (with_reducible refine Kd.C_drewN ?_ _) | (with_reducible refine Kd.C_drew ?_))); (case side8 => exact HC0_3.out); (case side9 => repeat (first | exact (Kd.C_below HR0_4.out HB.out) | (with_reducible refine Kd.C_alloc ?_ _) | (with_reducible refine Kd.C_drewN ?_ _) | (with_reducible refine Kd.C_drew ?_))); (case side10 => exact HC0_4.out); rintro e w11 ⟨rfl, hb⟩; refine ⟨_, rfl, ?_⟩; have n0_ := Ak (blk_below (g := gb244) (o := .cells #[.slice A0_0 l0_0.length c0_0, .slice A0_1 l0_1.length c0_1, .slice A0_2 l0_2.length c0_2, .slice A0_3 l0_3.length c0_3, .slice A0_4 l0_4.length c0_4] 26 (0, 0)) (by (with_reducible repeat (first | refine blk_drewN ?_ _ | refine blk_drew ?_ | refine blk_alloc ?_ _)); exact BK244.out) hb); have n1_ := Ak (blk_below (g := gb245) (o := .cells #[.slice none 0 0, .slice none 0 0, .slice none 0 0, .slice none 0 0, .slice none 0 0] 26 (0, 0)) (by (with_reducible repeat (first | refine blk_drewN ?_ _ | refine blk_drew ?_ | refine blk_alloc ?_ _)); exact BK245.out) hb); have n2_ := Ak (below_step (by repeat (first | (with_reducible first | exact HB.out | apply below_alloc | apply pw_below_drewN | apply below_drew1 | refine below_set ?_ GE244.out | refine below_set ?_ GE245.out) | exact HB.out)) hb); clear BK244; clear BK245; clear HB; have BK244 := n0_; have BK245 := n1_; have HB := n2_; clear n0_ n1_ n2_; (try clear hb); (try clear hb2); (try clear hk); (try clear hi); have hcz12_0 : w11.cell? ⟨gb244, 0, none⟩ = some (.slice A0_0 l0_0.length c0_0) := (blk_cell BK244.out 0).trans rfl; have hcz12_1 : w11.cell? ⟨gb244, 1, none⟩ = some (.slice A0_1 l0_1.length c0_1) := (blk_cell BK244.out 1).trans rfl; have hcz12_2 : w11.cell? ⟨gb244, 2, none⟩ = some (.slice A0_2 l0_2.length c0_2) := (blk_cell BK244.out 2).trans rfl; have hcz12_3 : w11.cell? ⟨gb244, 3, none⟩ = some (.slice A0_3 l0_3.length c0_3) := (blk_cell BK244.out 3).trans rfl; have hcz12_4 : w11.cell? ⟨gb244, 4, none⟩ = some (.slice A0_4 l0_4.length c0_4) := (blk_cell BK244.out 4).trans rfl; have hfz12_0 := blk_frozen BK244.out 0; have hfz12_1 := blk_frozen BK244.out 1; have hfz12_2 := blk_frozen BK244.out 2; have hfz12_3 := blk_frozen BK244.out 3; have hfz12_4 := blk_frozen BK244.out 4) | ((with_reducible refine gate_callee (f := 50) rfl ?_); refine goesL_ (some 9) rfl rfl Try.func50 (by kernel_rfl) rfl #[.agg #[.slice A0_0 l0_0.length c0_0, .slice A0_1 l0_1.length c0_1, .slice A0_2 l0_2.length c0_2, .slice A0_3 l0_3.length c0_3, .slice A0_4 l0_4.length c0_4]] rfl (by (try simp only [List.map_toArray, List.map_cons, List.map_nil]); first | done | rfl | (simp only [List.length_drop, List.length_take]; rfl)) ?_; (with_reducible refine (spec_l5Copy.calls _ _ l0_0 _ _ l0_1 _ _ l0_2 _ _ l0_3 _ _ l0_4 t247 t250 t253 t256 t259 _ ?side1 ?side2 ?side3 ?side4 ?side5 ?side6 ?side7 ?side8 ?side9 ?side10 A4.out).mono ?_); (case side1 => repeat (first | exact (Kd.C_below HR0_0.out HB.out) | (with_reducible refine Kd.C_alloc ?_ _) | (with_reducible refine Kd.C_drewN ?_ _) | (with_reducible refine Kd.C_drew ?_))); (case side2 => exact HC0_0.out); (case side3 => repeat (first | exact (Kd.C_below HR0_1.out HB.out) | (with_reducible refine Kd.C_alloc ?_ _) | (with_reducible refine Kd.C_drewN ?_ _) | (with_reducible refine Kd.C_drew ?_))); (case side4 => exact HC0_1.out); (case side5 => repeat (first | exact (Kd.C_below HR0_2.out HB.out) | (with_reducible refine Kd.C_alloc ?_ _) | (with_reducible refine Kd.C_drewN ?_ _) | (with_reducible refine Kd.C_drew ?_))); (case side6 => exact HC0_2.out); (case side7 => repeat (first | exact (Kd.C_below HR0_3.out HB.out) | (with_reducible refine Kd.C_alloc ?_ _) | (with_reducible refine Kd.C_drewN ?_ _) | (with_reducible refine Kd.C_drew ?_))); (case side8 => exact HC0_3.out); (case side9 => repeat (first | exact (Kd.C_below HR0_4.out HB.out) | (with_reducible refine Kd.C_alloc ?_ _) | (with_reducible refine Kd.C_drewN ?_ _) | (with_reducible refine Kd.C_drew ?_))); (case side10 => exact HC0_4.out); rintro e w13 ⟨v248, v251, v254, v257, v260, rfl, ho0, ho1, ho2, ho3, ho4, hb⟩; refine ⟨_, rfl, ?_⟩; have n0_ := Ak (Kd.R_lower ho0 (below_size (by repeat (first | (with_reducible first | exact HB.out | apply below_alloc | apply pw_below_drewN | apply below_drew1 | refine below_set ?_ GE244.out | refine below_set ?_ GE245.out) | exact HB.out)))); have n1_ := Ak (Kd.R_lower ho1 (below_size (by repeat (first | (with_reducible first | exact HB.out | apply below_alloc | apply pw_below_drewN | apply below_drew1 | refine below_set ?_ GE244.out | refine below_set ?_ GE245.out) | exact HB.out)))); have n2_ := Ak (Kd.R_lower ho2 (below_size (by repeat (first | (with_reducible first | exact HB.out | apply below_alloc | apply pw_below_drewN | apply below_drew1 | refine below_set ?_ GE244.out | refine below_set ?_ GE245.out) | exact HB.out)))); have n3_ := Ak (Kd.R_lower ho3 (below_size (by repeat (first | (with_reducible first | exact HB.out | apply below_alloc | apply pw_below_drewN | apply below_drew1 | refine below_set ?_ GE244.out | refine below_set ?_ GE245.out) | exact HB.out)))); have n4_ := Ak (Kd.R_lower ho4 (below_size (by repeat (first | (with_reducible first | exact HB.out | apply below_alloc | apply pw_below_drewN | apply below_drew1 | refine below_set ?_ GE244.out | refine below_set ?_ GE245.out) | exact HB.out)))); have n5_ := Ak (blk_below (g := gb244) (o := .cells #[.slice A0_0 l0_0.length c0_0, .slice A0_1 l0_1.length c0_1, .slice A0_2 l0_2.length c0_2, .slice A0_3 l0_3.length c0_3, .slice A0_4 l0_4.length c0_4] 26 (0, 0)) (by (with_reducible repeat (first | refine blk_drewN ?_ _ | refine blk_drew ?_ | refine blk_alloc ?_ _)); exact BK244.out) hb); have n6_ := Ak (blk_below (g := gb245) (o := .cells #[.slice none 0 0, .slice none 0 0, .slice none 0 0, .slice none 0 0, .slice none 0 0] 26 (0, 0)) (by (with_reducible repeat (first | refine blk_drewN ?_ _ | refine blk_drew ?_ | refine blk_alloc ?_ _)); exact BK245.out) hb); have n7_ := Ak (below_step (by repeat (first | (with_reducible first | exact HB.out | apply below_alloc | apply pw_below_drewN | apply below_drew1 | refine below_set ?_ GE244.out | refine below_set ?_ GE245.out) | exact HB.out)) hb); clear BK244; clear BK245; clear HB; have HO249 := n0_; have HO252 := n1_; have HO255 := n2_; have HO258 := n3_; have HO261 := n4_; have BK244 := n5_; have BK245 := n6_; have HB := n7_; clear n0_ n1_ n2_ n3_ n4_ n5_ n6_ n7_; (try clear hb); (try clear hb2); (try clear hk); (try clear hi); (try clear ho0); (try clear ho1); (try clear ho2); (try clear ho3); (try clear ho4)) | ((with_reducible refine gate_dst (N := 3) rfl ?_); refine box_event ?hg (N := 3) ?hd (cs := #[.slice none 0 0, .slice none 0 0, .slice none 0 0, .slice none 0 0, .slice none 0 0]) (t := 26) ?hr ?_; (case hd => rfl); (case hg => rfl); (case hr => first | (go_simp; done) | (go_simp; rfl)); intro gb262 hg w14 hbox hb; have n0_ := Ak (Kd.R_below (by (with_reducible repeat (first | apply Kd.R_alloc | apply Kd.R_drewN | apply Kd.R_drew)); exact HO249.out) hb); have n1_ := Ak (Kd.R_below (by (with_reducible repeat (first | apply Kd.R_alloc | apply Kd.R_drewN | apply Kd.R_drew)); exact HO252.out) hb); have n2_ := Ak (Kd.R_below (by (with_reducible repeat (first | apply Kd.R_alloc | apply Kd.R_drewN | apply Kd.R_drew)); exact HO255.out) hb); have n3_ := Ak (Kd.R_below (by (with_reducible repeat (first | apply Kd.R_alloc | apply Kd.R_drewN | apply Kd.R_drew)); exact HO258.out) hb); have n4_ := Ak (Kd.R_below (by (with_reducible repeat (first | apply Kd.R_alloc | apply Kd.R_drewN | apply Kd.R_drew)); exact HO261.out) hb); have n5_ := Ak (blk_below (g := gb244) (o := .cells #[.slice A0_0 l0_0.length c0_0, .slice A0_1 l0_1.length c0_1, .slice A0_2 l0_2.length c0_2, .slice A0_3 l0_3.length c0_3, .slice A0_4 l0_4.length c0_4] 26 (0, 0)) (by (with_reducible repeat (first | refine blk_drewN ?_ _ | refine blk_drew ?_ | refine blk_alloc ?_ _)); exact BK244.out) hb); have n6_ := Ak (blk_below (g := gb245) (o := .cells #[.slice none 0 0, .slice none 0 0, .slice none 0 0, .slice none 0 0, .slice none 0 0] 26 (0, 0)) (by (with_reducible repeat (first | refine blk_drewN ?_ _ | refine blk_drew ?_ | refine blk_alloc ?_ _)); exact BK245.out) hb); have n7_ := Ak (below_step (by repeat (first | (with_reducible first | exact HB.out | apply below_alloc | apply pw_below_drewN | apply below_drew1 | refine below_set ?_ GE244.out | refine below_set ?_ GE245.out) | exact HB.out)) hb); have n8_ := Ak (hbox); have n9_ := Ak ((by rw [hg]; exact (below_size (by repeat (first | (with_reducible first | exact HB.out | apply below_alloc | apply pw_below_drewN | apply below_drew1 | refine below_set ?_ GE244.out | refine below_set ?_ GE245.out) | exact HB.out))) : w.heap.size ≤ gb262)); have n10_ := Ak ((by rw [hg]; exact (below_size (by repeat (first | (with_reducible first | exact HB.out | apply below_alloc | apply pw_below_drewN | apply below_drew1 | refine below_set ?_ GE244.out | refine below_set ?_ GE245.out) | exact HB.out))) : w.heap.size ≤ gb262)); have n11_ := Ak ((by rw [hg]; exact Nat.ne_of_lt (blk_lt (g := gb244) (o := .cells #[.slice A0_0 l0_0.length c0_0, .slice A0_1 l0_1.length c0_1, .slice A0_2 l0_2.length c0_2, .slice A0_3 l0_3.length c0_3, .slice A0_4 l0_4.length c0_4] 26 (0, 0)) (by (with_reducible repeat (first | refine blk_drewN ?_ _ | refine blk_drew ?_ | refine blk_alloc ?_ _)); exact BK244.out)) : gb244 ≠ gb262)); have n12_ := Ak ((by rw [hg]; exact Nat.ne_of_gt (blk_lt (g := gb244) (o := .cells #[.slice A0_0 l0_0.length c0_0, .slice A0_1 l0_1.length c0_1, .slice A0_2 l0_2.length c0_2, .slice A0_3 l0_3.length c0_3, .slice A0_4 l0_4.length c0_4] 26 (0, 0)) (by (with_reducible repeat (first | refine blk_drewN ?_ _ | refine blk_drew ?_ | refine blk_alloc ?_ _)); exact BK244.out)) : gb262 ≠ gb244)); have n13_ := Ak ((by rw [hg]; exact Nat.ne_of_lt (blk_lt (g := gb245) (o := .cells #[.slice none 0 0, .slice none 0 0, .slice none 0 0, .slice none 0 0, .slice none 0 0] 26 (0, 0)) (by (with_reducible repeat (first | refine blk_drewN ?_ _ | refine blk_drew ?_ | refine blk_alloc ?_ _)); exact BK245.out)) : gb245 ≠ gb262)); have n14_ := Ak ((by rw [hg]; exact Nat.ne_of_gt (blk_lt (g := gb245) (o := .cells #[.slice none 0 0, .slice none 0 0, .slice none 0 0, .slice none 0 0, .slice none 0 0] 26 (0, 0)) (by (with_reducible repeat (first | refine blk_drewN ?_ _ | refine blk_drew ?_ | refine blk_alloc ?_ _)); exact BK245.out)) : gb262 ≠ gb245)); clear HO249; clear HO252; clear HO255; clear HO258; clear HO261; clear BK244; clear BK245; clear HB; have HO249 := n0_; have HO252 := n1_; have HO255 := n2_; have HO258 := n3_; have HO261 := n4_; have BK244 := n5_; have BK245 := n6_; have HB := n7_; have BK262 := n8_; have GW262 := n9_; have GE262 := n10_; have NB244_262 := n11_; have NB262_244 := n12_; have NB245_262 := n13_; have NB262_245 := n14_; clear n0_ n1_ n2_ n3_ n4_ n5_ n6_ n7_ n8_ n9_ n10_ n11_ n12_ n13_ n14_; clear hb hbox hg; obtain ⟨Ao15, co15, eo15⟩ := Kd.R_slice HO249.out; subst eo15; have hnb16 := NB262_244.out; have hnc16 := NB244_262.out; have hnb17 := NB262_245.out; have hnc17 := NB245_262.out; have hcz18_0 : w14.cell? ⟨gb262, 0, none⟩ = some (.slice none 0 0) := (blk_cell BK262.out 0).trans rfl; have hcz18_1 : w14.cell? ⟨gb262, 1, none⟩ = some (.slice none 0 0) := (blk_cell BK262.out 1).trans rfl; have hcz18_2 : w14.cell? ⟨gb262, 2, none⟩ = some (.slice none 0 0) := (blk_cell BK262.out 2).trans rfl; have hcz18_3 : w14.cell? ⟨gb262, 3, none⟩ = some (.slice none 0 0) := (blk_cell BK262.out 3).trans rfl; have hcz18_4 : w14.cell? ⟨gb262, 4, none⟩ = some (.slice none 0 0) := (blk_cell BK262.out 4).trans rfl; have hfz18_0 := blk_frozen BK262.out 0; have hfz18_1 := blk_frozen BK262.out 1; have hfz18_2 := blk_frozen BK262.out 2; have hfz18_3 := blk_frozen BK262.out 3; have hfz18_4 := blk_frozen BK262.out 4; obtain ⟨Ao19, co19, eo19⟩ := Kd.R_slice HO252.out; subst eo19; obtain ⟨Ao20, co20, eo20⟩ := Kd.R_slice HO255.out; subst eo20; obtain ⟨Ao21, co21, eo21⟩ := Kd.R_slice HO258.out; subst eo21; obtain ⟨Ao22, co22, eo22⟩ := Kd.R_slice HO261.out; subst eo22) | ((with_reducible refine gate_dst (N := 10) rfl ?_); refine Kd.R_lit Kd.string _ 9 ?hg (N := 10) ?hd (xs := ([] : List ByteArray)) (inner := []) (ok := fun _ => True) (okp := fun _ => True) ?hr ?hp (fun _ hk => hk) trivial (Below.refl _ _) (Nat.le_refl _) (by simp) ?_; (case hd => rfl); (case hg => rfl); (case hr => first | (go_simp; done) | (go_simp; rfl)); (case hp => exact (Reps.none _ _)); intro v264 w23 ho24 hb hg_ hnew_; clear hg_ hnew_; (first | rw [← Ny263.out] at ho24 | (simp only [Int.reduceToNat] at ho24; rw [← Ny263.out] at ho24)); have n0_ := Ak (Kd.R_elder' (by (with_reducible repeat (first | apply Kd.R_alloc | apply Kd.R_drewN | apply Kd.R_drew)); exact (Kd.R_mono (Kd.R_far (p := ⟨gb262, 4, none⟩) (Kd.R_far (p := ⟨gb262, 3, none⟩) (Kd.R_far (p := ⟨gb262, 2, none⟩) (Kd.R_far (p := ⟨gb262, 1, none⟩) (Kd.R_far (p := ⟨gb262, 0, none⟩) (Kd.R_types HO249.out BK262.out (by decide)) (fun _ hk => hk.2) (.slice Ao15 t247.length co15)) (fun _ hk => hk.2) (.slice Ao19 t250.length co19)) (fun _ hk => hk.2) (.slice Ao20 t253.length co20)) (fun _ hk => hk.2) (.slice Ao21 t256.length co21)) (fun _ hk => hk.2) (.slice Ao22 t259.length co22)) (fun _ h_ => h_.1))) (Kd.R_base ho24) hb); have n1_ := Ak (Kd.R_elder' (by (with_reducible repeat (first | apply Kd.R_alloc | apply Kd.R_drewN | apply Kd.R_drew)); exact (Kd.R_mono (Kd.R_far (p := ⟨gb262, 4, none⟩) (Kd.R_far (p := ⟨gb262, 3, none⟩) (Kd.R_far (p := ⟨gb262, 2, none⟩) (Kd.R_far (p := ⟨gb262, 1, none⟩) (Kd.R_far (p := ⟨gb262, 0, none⟩) (Kd.R_types HO252.out BK262.out (by decide)) (fun _ hk => hk.2) (.slice Ao15 t247.length co15)) (fun _ hk => hk.2) (.slice Ao19 t250.length co19)) (fun _ hk => hk.2) (.slice Ao20 t253.length co20)) (fun _ hk => hk.2) (.slice Ao21 t256.length co21)) (fun _ hk => hk.2) (.slice Ao22 t259.length co22)) (fun _ h_ => h_.1))) (Kd.R_base ho24) hb); have n2_ := Ak (Kd.R_below (by (with_reducible repeat (first | apply Kd.R_alloc | apply Kd.R_drewN | apply Kd.R_drew)); exact (Kd.R_mono (Kd.R_far (p := ⟨gb262, 4, none⟩) (Kd.R_far (p := ⟨gb262, 3, none⟩) (Kd.R_far (p := ⟨gb262, 2, none⟩) (Kd.R_far (p := ⟨gb262, 1, none⟩) (Kd.R_far (p := ⟨gb262, 0, none⟩) (Kd.R_types HO255.out BK262.out (by decide)) (fun _ hk => hk.2) (.slice Ao15 t247.length co15)) (fun _ hk => hk.2) (.slice Ao19 t250.length co19)) (fun _ hk => hk.2) (.slice Ao20 t253.length co20)) (fun _ hk => hk.2) (.slice Ao21 t256.length co21)) (fun _ hk => hk.2) (.slice Ao22 t259.length co22)) (fun _ h_ => h_.1))) hb); have n3_ := Ak (Kd.R_below (by (with_reducible repeat (first | apply Kd.R_alloc | apply Kd.R_drewN | apply Kd.R_drew)); exact (Kd.R_mono (Kd.R_far (p := ⟨gb262, 4, none⟩) (Kd.R_far (p := ⟨gb262, 3, none⟩) (Kd.R_far (p := ⟨gb262, 2, none⟩) (Kd.R_far (p := ⟨gb262, 1, none⟩) (Kd.R_far (p := ⟨gb262, 0, none⟩) (Kd.R_types HO258.out BK262.out (by decide)) (fun _ hk => hk.2) (.slice Ao15 t247.length co15)) (fun _ hk => hk.2) (.slice Ao19 t250.length co19)) (fun _ hk => hk.2) (.slice Ao20 t253.length co20)) (fun _ hk => hk.2) (.slice Ao21 t256.length co21)) (fun _ hk => hk.2) (.slice Ao22 t259.length co22)) (fun _ h_ => h_.1))) hb); have n4_ := Ak (Kd.R_below (by (with_reducible repeat (first | apply Kd.R_alloc | apply Kd.R_drewN | apply Kd.R_drew)); exact (Kd.R_mono (Kd.R_far (p := ⟨gb262, 4, none⟩) (Kd.R_far (p := ⟨gb262, 3, none⟩) (Kd.R_far (p := ⟨gb262, 2, none⟩) (Kd.R_far (p := ⟨gb262, 1, none⟩) (Kd.R_far (p := ⟨gb262, 0, none⟩) (Kd.R_types HO261.out BK262.out (by decide)) (fun _ hk => hk.2) (.slice Ao15 t247.length co15)) (fun _ hk => hk.2) (.slice Ao19 t250.length co19)) (fun _ hk => hk.2) (.slice Ao20 t253.length co20)) (fun _ hk => hk.2) (.slice Ao21 t256.length co21)) (fun _ hk => hk.2) (.slice Ao22 t259.length co22)) (fun _ h_ => h_.1))) hb); have n5_ := Ak (Kd.R_lower (Kd.R_new' (Kd.R_new' ho24 (Kd.R_lt (by (with_reducible repeat (first | apply Kd.R_alloc | apply Kd.R_drewN | apply Kd.R_drew)); exact (Kd.R_mono (Kd.R_far (p := ⟨gb262, 4, none⟩) (Kd.R_far (p := ⟨gb262, 3, none⟩) (Kd.R_far (p := ⟨gb262, 2, none⟩) (Kd.R_far (p := ⟨gb262, 1, none⟩) (Kd.R_far (p := ⟨gb262, 0, none⟩) (Kd.R_types HO249.out BK262.out (by decide)) (fun _ hk => hk.2) (.slice Ao15 t247.length co15)) (fun _ hk => hk.2) (.slice Ao19 t250.length co19)) (fun _ hk => hk.2) (.slice Ao20 t253.length co20)) (fun _ hk => hk.2) (.slice Ao21 t256.length co21)) (fun _ hk => hk.2) (.slice Ao22 t259.length co22)) (fun _ h_ => h_.1))))) (Kd.R_lt (by (with_reducible repeat (first | apply Kd.R_alloc | apply Kd.R_drewN | apply Kd.R_drew)); exact (Kd.R_mono (Kd.R_far (p := ⟨gb262, 4, none⟩) (Kd.R_far (p := ⟨gb262, 3, none⟩) (Kd.R_far (p := ⟨gb262, 2, none⟩) (Kd.R_far (p := ⟨gb262, 1, none⟩) (Kd.R_far (p := ⟨gb262, 0, none⟩) (Kd.R_types HO252.out BK262.out (by decide)) (fun _ hk => hk.2) (.slice Ao15 t247.length co15)) (fun _ hk => hk.2) (.slice Ao19 t250.length co19)) (fun _ hk => hk.2) (.slice Ao20 t253.length co20)) (fun _ hk => hk.2) (.slice Ao21 t256.length co21)) (fun _ hk => hk.2) (.slice Ao22 t259.length co22)) (fun _ h_ => h_.1))))) (below_size (by repeat (first | (with_reducible first | exact HB.out | apply below_alloc | apply pw_below_drewN | apply below_drew1 | refine below_set ?_ GE244.out | refine below_set ?_ GE245.out | refine below_set ?_ GE262.out) | exact HB.out)))); have n6_ := Ak (blk_below (g := gb244) (o := .cells #[.slice A0_0 l0_0.length c0_0, .slice A0_1 l0_1.length c0_1, .slice A0_2 l0_2.length c0_2, .slice A0_3 l0_3.length c0_3, .slice A0_4 l0_4.length c0_4] 26 (0, 0)) (by (with_reducible repeat (first | refine blk_drewN ?_ _ | refine blk_drew ?_ | refine blk_alloc ?_ _)); refine blk_far ?_ NB244_262.out _; (with_reducible repeat (first | refine blk_drewN ?_ _ | refine blk_drew ?_ | refine blk_alloc ?_ _)); refine blk_far ?_ NB244_262.out _; (with_reducible repeat (first | refine blk_drewN ?_ _ | refine blk_drew ?_ | refine blk_alloc ?_ _)); refine blk_far ?_ NB244_262.out _; (with_reducible repeat (first | refine blk_drewN ?_ _ | refine blk_drew ?_ | refine blk_alloc ?_ _)); refine blk_far ?_ NB244_262.out _; (with_reducible repeat (first | refine blk_drewN ?_ _ | refine blk_drew ?_ | refine blk_alloc ?_ _)); refine blk_far ?_ NB244_262.out _; (with_reducible repeat (first | refine blk_drewN ?_ _ | refine blk_drew ?_ | refine blk_alloc ?_ _)); exact BK244.out) hb); have n7_ := Ak (blk_below (g := gb245) (o := .cells #[.slice none 0 0, .slice none 0 0, .slice none 0 0, .slice none 0 0, .slice none 0 0] 26 (0, 0)) (by (with_reducible repeat (first | refine blk_drewN ?_ _ | refine blk_drew ?_ | refine blk_alloc ?_ _)); refine blk_far ?_ NB245_262.out _; (with_reducible repeat (first | refine blk_drewN ?_ _ | refine blk_drew ?_ | refine blk_alloc ?_ _)); refine blk_far ?_ NB245_262.out _; (with_reducible repeat (first | refine blk_drewN ?_ _ | refine blk_drew ?_ | refine blk_alloc ?_ _)); refine blk_far ?_ NB245_262.out _; (with_reducible repeat (first | refine blk_drewN ?_ _ | refine blk_drew ?_ | refine blk_alloc ?_ _)); refine blk_far ?_ NB245_262.out _; (with_reducible repeat (first | refine blk_drewN ?_ _ | refine blk_drew ?_ | refine blk_alloc ?_ _)); refine blk_far ?_ NB245_262.out _; (with_reducible repeat (first | refine blk_drewN ?_ _ | refine blk_drew ?_ | refine blk_alloc ?_ _)); exact BK245.out) hb); have n8_ := Ak (blk_below (g := gb262) (o := .cells #[.slice Ao15 t247.length co15, .slice Ao19 t250.length co19, .slice Ao20 t253.length co20, .slice Ao21 t256.length co21, .slice Ao22 t259.length co22] 26 (0, 0)) (by (with_reducible repeat (first | refine blk_drewN ?_ _ | refine blk_drew ?_ | refine blk_alloc ?_ _)); refine blk_put (cs := #[.slice Ao15 t247.length co15, .slice Ao19 t250.length co19, .slice Ao20 t253.length co20, .slice Ao21 t256.length co21, .slice none 0 0]) ?_ 4 _ rfl; (with_reducible repeat (first | refine blk_drewN ?_ _ | refine blk_drew ?_ | refine blk_alloc ?_ _)); refine blk_put (cs := #[.slice Ao15 t247.length co15, .slice Ao19 t250.length co19, .slice Ao20 t253.length co20, .slice none 0 0, .slice none 0 0]) ?_ 3 _ rfl; (with_reducible repeat (first | refine blk_drewN ?_ _ | refine blk_drew ?_ | refine blk_alloc ?_ _)); refine blk_put (cs := #[.slice Ao15 t247.length co15, .slice Ao19 t250.length co19, .slice none 0 0, .slice none 0 0, .slice none 0 0]) ?_ 2 _ rfl; (with_reducible repeat (first | refine blk_drewN ?_ _ | refine blk_drew ?_ | refine blk_alloc ?_ _)); refine blk_put (cs := #[.slice Ao15 t247.length co15, .slice none 0 0, .slice none 0 0, .slice none 0 0, .slice none 0 0]) ?_ 1 _ rfl; (with_reducible repeat (first | refine blk_drewN ?_ _ | refine blk_drew ?_ | refine blk_alloc ?_ _)); refine blk_put (cs := #[.slice none 0 0, .slice none 0 0, .slice none 0 0, .slice none 0 0, .slice none 0 0]) ?_ 0 _ rfl; (with_reducible repeat (first | refine blk_drewN ?_ _ | refine blk_drew ?_ | refine blk_alloc ?_ _)); exact BK262.out) hb); have n9_ := Ak (below_step (by repeat (first | (with_reducible first | exact HB.out | apply below_alloc | apply pw_below_drewN | apply below_drew1 | refine below_set ?_ GE244.out | refine below_set ?_ GE245.out | refine below_set ?_ GE262.out) | exact HB.out)) hb); clear HO249; clear HO252; clear HO255; clear HO258; clear HO261; clear BK244; clear BK245; clear BK262; clear HB; have HO249 := n0_; have HO252 := n1_; have HO255 := n2_; have HO258 := n3_; have HO261 := n4_; have HO265 := n5_; have BK244 := n6_; have BK245 := n7_; have BK262 := n8_; have HB := n9_; clear n0_ n1_ n2_ n3_ n4_ n5_ n6_ n7_ n8_ n9_; clear hb ho24; have hcz25_0 : w23.cell? ⟨gb244, 0, none⟩ = some (.slice A0_0 l0_0.length c0_0) := (blk_cell BK244.out 0).trans rfl; have hcz25_1 : w23.cell? ⟨gb244, 1, none⟩ = some (.slice A0_1 l0_1.length c0_1) := (blk_cell BK244.out 1).trans rfl; have hcz25_2 : w23.cell? ⟨gb244, 2, none⟩ = some (.slice A0_2 l0_2.length c0_2) := (blk_cell BK244.out 2).trans rfl; have hcz25_3 : w23.cell? ⟨gb244, 3, none⟩ = some (.slice A0_3 l0_3.length c0_3) := (blk_cell BK244.out 3).trans rfl; have hcz25_4 : w23.cell? ⟨gb244, 4, none⟩ = some (.slice A0_4 l0_4.length c0_4) := (blk_cell BK244.out 4).trans rfl; have hfz25_0 := blk_frozen BK244.out 0; have hfz25_1 := blk_frozen BK244.out 1; have hfz25_2 := blk_frozen BK244.out 2; have hfz25_3 := blk_frozen BK244.out 3; have hfz25_4 := blk_frozen BK244.out 4) | ((with_reducible refine gate_builtin (b := .append) (xs := #[.tmp 10, .tmp 12]) rfl ?_); at_builtin; refine Kd.R_append_rows Kd.string (w0 := w) w.heap.size rfl (.tmp 10) (.tmp 12) 23 9 (.string ⟨#[]⟩) 16 rfl Try.underlying23 info9 rfl (by decide) (by omega) v264 y263 l0_0 _ _ _ (fun k_ => some k_ ≠ (.slice Ao15 t247.length co15 : Value).ownBlock ∧ some k_ ≠ (.slice Ao19 t250.length co19 : Value).ownBlock) (fun _ => False) rfl rfl ?aO ?aR (fun _ _ h => h) (fun _ h => h.elim) ?aF ?aB ?aS ?aL ?_; (case aR => repeat (first | exact (Kd.C_below HR0_0.out HB.out) | (with_reducible refine Kd.C_alloc ?_ _) | (with_reducible refine Kd.C_drewN ?_ _) | (with_reducible refine Kd.C_drew ?_))); (case aB => exact (by repeat (first | (with_reducible first | exact HB.out | apply below_alloc | apply pw_below_drewN | apply below_drew1 | refine below_set ?_ GE244.out | refine below_set ?_ GE245.out | refine below_set ?_ GE262.out) | exact HB.out))); (case aF => exact (fun k_ hk => ⟨Kd.fresh' (Kd.R_lt (by (with_reducible repeat (first | apply Kd.R_alloc | apply Kd.R_drewN | apply Kd.R_drew)); exact HO249.out)) k_ hk, Kd.fresh' (Kd.R_lt (by (with_reducible repeat (first | apply Kd.R_alloc | apply Kd.R_drewN | apply Kd.R_drew)); exact HO252.out)) k_ hk⟩)); (case aO => exact (by (with_reducible repeat (first | apply Kd.R_alloc | apply Kd.R_drewN | apply Kd.R_drew)); exact Kd.R_mono HO265.out (fun _ hk => ⟨hk.1.2, hk.2⟩))); (case aS => exact (below_size (by repeat (first | (with_reducible first | exact HB.out | apply below_alloc | apply pw_below_drewN | apply below_drew1 | refine below_set ?_ GE244.out | refine below_set ?_ GE245.out | refine below_set ?_ GE262.out) | exact HB.out)))); (case aL => have := LMc5.out; omega); intro v267 w26 ho hb hg hat; rw [← Ny266.out] at ho; have n0_ := Ak (blk_grown (g := gb244) (o := .cells #[.slice A0_0 l0_0.length c0_0, .slice A0_1 l0_1.length c0_1, .slice A0_2 l0_2.length c0_2, .slice A0_3 l0_3.length c0_3, .slice A0_4 l0_4.length c0_4] 26 (0, 0)) (by (with_reducible repeat (first | refine blk_drewN ?_ _ | refine blk_drew ?_ | refine blk_alloc ?_ _)); exact BK244.out) hg (Kd.R_ne HO265.out BK244.out (by decide))); have n1_ := Ak (blk_grown (g := gb245) (o := .cells #[.slice none 0 0, .slice none 0 0, .slice none 0 0, .slice none 0 0, .slice none 0 0] 26 (0, 0)) (by (with_reducible repeat (first | refine blk_drewN ?_ _ | refine blk_drew ?_ | refine blk_alloc ?_ _)); exact BK245.out) hg (Kd.R_ne HO265.out BK245.out (by decide))); have n2_ := Ak (Kd.R_after (ok := (fun k_ => some k_ ≠ (.slice Ao19 t250.length co19 : Value).ownBlock)) (by (with_reducible repeat (first | apply Kd.R_alloc | apply Kd.R_drewN | apply Kd.R_drew)); exact HO249.out) hg hat); have n3_ := Ak (Kd.R_after (ok := (fun k_ => some k_ ≠ (.slice Ao15 t247.length co15 : Value).ownBlock)) (by (with_reducible repeat (first | apply Kd.R_alloc | apply Kd.R_drewN | apply Kd.R_drew)); exact HO252.out) hg hat); have n4_ := Ak (Kd.R_over' (by (with_reducible repeat (first | apply Kd.R_alloc | apply Kd.R_drewN | apply Kd.R_drew)); exact HO255.out) (Kd.R_typed (by (with_reducible repeat (first | apply Kd.R_alloc | apply Kd.R_drewN | apply Kd.R_drew)); exact HO265.out)) (by decide) hg); have n5_ := Ak (Kd.R_over' (by (with_reducible repeat (first | apply Kd.R_alloc | apply Kd.R_drewN | apply Kd.R_drew)); exact HO258.out) (Kd.R_typed (by (with_reducible repeat (first | apply Kd.R_alloc | apply Kd.R_drewN | apply Kd.R_drew)); exact HO265.out)) (by decide) hg); have n6_ := Ak (Kd.R_over' (by (with_reducible repeat (first | apply Kd.R_alloc | apply Kd.R_drewN | apply Kd.R_drew)); exact HO261.out) (Kd.R_typed (by (with_reducible repeat (first | apply Kd.R_alloc | apply Kd.R_drewN | apply Kd.R_drew)); exact HO265.out)) (by decide) hg); have n7_ := Ak (blk_grown (g := gb262) (o := .cells #[.slice Ao15 t247.length co15, .slice Ao19 t250.length co19, .slice Ao20 t253.length co20, .slice Ao21 t256.length co21, .slice Ao22 t259.length co22] 26 (0, 0)) (by (with_reducible repeat (first | refine blk_drewN ?_ _ | refine blk_drew ?_ | refine blk_alloc ?_ _)); exact BK262.out) hg (Kd.R_ne HO265.out BK262.out (by decide))); have n8_ := Ak (hb); have n9_ := Ak (ho); clear BK244; clear BK245; clear HO249; clear HO252; clear HO255; clear HO258; clear HO261; clear BK262; clear HB; clear HO265; have BK244 := n0_; have BK245 := n1_; have HO249 := n2_; have HO252 := n3_; have HO255 := n4_; have HO258 := n5_; have HO261 := n6_; have BK262 := n7_; have HB := n8_; have HO268 := n9_; clear n0_ n1_ n2_ n3_ n4_ n5_ n6_ n7_ n8_ n9_; clear ho hb hg hat; obtain ⟨Ao27, co27, eo27⟩ := Kd.R_slice HO268.out; subst eo27; have hcz28_0 : w26.cell? ⟨gb262, 0, none⟩ = some (.slice Ao15 t247.length co15) := (blk_cell BK262.out 0).trans rfl; have hcz28_1 : w26.cell? ⟨gb262, 1, none⟩ = some (.slice Ao19 t250.length co19) := (blk_cell BK262.out 1).trans rfl; have hcz28_2 : w26.cell? ⟨gb262, 2, none⟩ = some (.slice Ao20 t253.length co20) := (blk_cell BK262.out 2).trans rfl; have hcz28_3 : w26.cell? ⟨gb262, 3, none⟩ = some (.slice Ao21 t256.length co21) := (blk_cell BK262.out 3).trans rfl; have hcz28_4 : w26.cell? ⟨gb262, 4, none⟩ = some (.slice Ao22 t259.length co22) := (blk_cell BK262.out 4).trans rfl; have hfz28_0 := blk_frozen BK262.out 0; have hfz28_1 := blk_frozen BK262.out 1; have hfz28_2 := blk_frozen BK262.out 2; have hfz28_3 := blk_frozen BK262.out 3; have hfz28_4 := blk_frozen BK262.out 4) | ((with_reducible refine gate_dst (N := 15) rfl ?_); refine Kd.R_lit (Kd.int .i64) _ 3 ?hg (N := 15) ?hd (xs := ([] : List Int)) (inner := []) (ok := fun _ => True) (okp := fun _ => True) ?hr ?hp (fun _ hk => hk) trivial (Below.refl _ _) (Nat.le_refl _) (by simp) ?_; (case hd => rfl); (case hg => rfl); (case hr => first | (go_simp; done) | (go_simp; rfl)); (case hp => exact (Reps.none _ _)); intro v270 w29 ho30 hb hg_ hnew_; clear hg_ hnew_; (first | rw [← Ny269.out] at ho30 | (simp only [Int.reduceToNat] at ho30; rw [← Ny269.out] at ho30)); have n0_ := Ak (Kd.R_below (by (with_reducible repeat (first | apply Kd.R_alloc | apply Kd.R_drewN | apply Kd.R_drew)); exact (Kd.R_mono (Kd.R_far (p := ⟨gb262, 1, none⟩) (Kd.R_types HO249.out BK262.out (by decide)) (fun _ hk => hk.2) (.slice Ao27 y266.length co27)) (fun _ h_ => h_.1))) hb); have n1_ := Ak (Kd.R_below (by (with_reducible repeat (first | apply Kd.R_alloc | apply Kd.R_drewN | apply Kd.R_drew)); exact (Kd.R_mono (Kd.R_far (p := ⟨gb262, 1, none⟩) (Kd.R_types HO252.out BK262.out (by decide)) (fun _ hk => hk.2) (.slice Ao27 y266.length co27)) (fun _ h_ => h_.1))) hb); have n2_ := Ak (Kd.R_elder' (by (with_reducible repeat (first | apply Kd.R_alloc | apply Kd.R_drewN | apply Kd.R_drew)); exact (Kd.R_mono (Kd.R_far (p := ⟨gb262, 1, none⟩) (Kd.R_types HO255.out BK262.out (by decide)) (fun _ hk => hk.2) (.slice Ao27 y266.length co27)) (fun _ h_ => h_.1))) (Kd.R_base ho30) hb); have n3_ := Ak (Kd.R_elder' (by (with_reducible repeat (first | apply Kd.R_alloc | apply Kd.R_drewN | apply Kd.R_drew)); exact (Kd.R_mono (Kd.R_far (p := ⟨gb262, 1, none⟩) (Kd.R_types HO258.out BK262.out (by decide)) (fun _ hk => hk.2) (.slice Ao27 y266.length co27)) (fun _ h_ => h_.1))) (Kd.R_base ho30) hb); have n4_ := Ak (Kd.R_elder' (by (with_reducible repeat (first | apply Kd.R_alloc | apply Kd.R_drewN | apply Kd.R_drew)); exact (Kd.R_mono (Kd.R_far (p := ⟨gb262, 1, none⟩) (Kd.R_types HO261.out BK262.out (by decide)) (fun _ hk => hk.2) (.slice Ao27 y266.length co27)) (fun _ h_ => h_.1))) (Kd.R_base ho30) hb); have n5_ := Ak (Kd.R_below (by (with_reducible repeat (first | apply Kd.R_alloc | apply Kd.R_drewN | apply Kd.R_drew)); exact (Kd.R_mono (Kd.R_far (p := ⟨gb262, 1, none⟩) (Kd.R_types HO268.out BK262.out (by decide)) (fun _ hk => hk.2) (.slice Ao27 y266.length co27)) (fun _ h_ => h_.1))) hb); have n6_ := Ak (Kd.R_lower (Kd.R_new' (Kd.R_new' (Kd.R_new' ho30 (Kd.R_lt (by (with_reducible repeat (first | apply Kd.R_alloc | apply Kd.R_drewN | apply Kd.R_drew)); exact (Kd.R_mono (Kd.R_far (p := ⟨gb262, 1, none⟩) (Kd.R_types HO255.out BK262.out (by decide)) (fun _ hk => hk.2) (.slice Ao27 y266.length co27)) (fun _ h_ => h_.1))))) (Kd.R_lt (by (with_reducible repeat (first | apply Kd.R_alloc | apply Kd.R_drewN | apply Kd.R_drew)); exact (Kd.R_mono (Kd.R_far (p := ⟨gb262, 1, none⟩) (Kd.R_types HO258.out BK262.out (by decide)) (fun _ hk => hk.2) (.slice Ao27 y266.length co27)) (fun _ h_ => h_.1))))) (Kd.R_lt (by (with_reducible repeat (first | apply Kd.R_alloc | apply Kd.R_drewN | apply Kd.R_drew)); exact (Kd.R_mono (Kd.R_far (p := ⟨gb262, 1, none⟩) (Kd.R_types HO261.out BK262.out (by decide)) (fun _ hk => hk.2) (.slice Ao27 y266.length co27)) (fun _ h_ => h_.1))))) (below_size (by repeat (first | (with_reducible first | exact HB.out | apply below_alloc | apply pw_below_drewN | apply below_drew1 | refine below_set ?_ GE244.out | refine below_set ?_ GE245.out | refine below_set ?_ GE262.out) | exact HB.out)))); have n7_ := Ak (blk_below (g := gb244) (o := .cells #[.slice A0_0 l0_0.length c0_0, .slice A0_1 l0_1.length c0_1, .slice A0_2 l0_2.length c0_2, .slice A0_3 l0_3.length c0_3, .slice A0_4 l0_4.length c0_4] 26 (0, 0)) (by (with_reducible repeat (first | refine blk_drewN ?_ _ | refine blk_drew ?_ | refine blk_alloc ?_ _)); refine blk_far ?_ NB244_262.out _; (with_reducible repeat (first | refine blk_drewN ?_ _ | refine blk_drew ?_ | refine blk_alloc ?_ _)); exact BK244.out) hb); have n8_ := Ak (blk_below (g := gb245) (o := .cells #[.slice none 0 0, .slice none 0 0, .slice none 0 0, .slice none 0 0, .slice none 0 0] 26 (0, 0)) (by (with_reducible repeat (first | refine blk_drewN ?_ _ | refine blk_drew ?_ | refine blk_alloc ?_ _)); refine blk_far ?_ NB245_262.out _; (with_reducible repeat (first | refine blk_drewN ?_ _ | refine blk_drew ?_ | refine blk_alloc ?_ _)); exact BK245.out) hb); have n9_ := Ak (blk_below (g := gb262) (o := .cells #[.slice Ao15 t247.length co15, .slice Ao27 y266.length co27, .slice Ao20 t253.length co20, .slice Ao21 t256.length co21, .slice Ao22 t259.length co22] 26 (0, 0)) (by (with_reducible repeat (first | refine blk_drewN ?_ _ | refine blk_drew ?_ | refine blk_alloc ?_ _)); refine blk_put (cs := #[.slice Ao15 t247.length co15, .slice Ao19 t250.length co19, .slice Ao20 t253.length co20, .slice Ao21 t256.length co21, .slice Ao22 t259.length co22]) ?_ 1 _ rfl; (with_reducible repeat (first | refine blk_drewN ?_ _ | refine blk_drew ?_ | refine blk_alloc ?_ _)); exact BK262.out) hb); have n10_ := Ak (below_step (by repeat (first | (with_reducible first | exact HB.out | apply below_alloc | apply pw_below_drewN | apply below_drew1 | refine below_set ?_ GE244.out | refine below_set ?_ GE245.out | refine below_set ?_ GE262.out) | exact HB.out)) hb); clear HO249; clear HO252; clear HO255; clear HO258; clear HO261; clear HO268; clear BK244; clear BK245; clear BK262; clear HB; have HO249 := n0_; have HO252 := n1_; have HO255 := n2_; have HO258 := n3_; have HO261 := n4_; have HO268 := n5_; have HO271 := n6_; have BK244 := n7_; have BK245 := n8_; have BK262 := n9_; have HB := n10_; clear n0_ n1_ n2_ n3_ n4_ n5_ n6_ n7_ n8_ n9_ n10_; clear hb ho30; have hcz31_0 : w29.cell? ⟨gb244, 0, none⟩ = some (.slice A0_0 l0_0.length c0_0) := (blk_cell BK244.out 0).trans rfl; have hcz31_1 : w29.cell? ⟨gb244, 1, none⟩ = some (.slice A0_1 l0_1.length c0_1) := (blk_cell BK244.out 1).trans rfl; have hcz31_2 : w29.cell? ⟨gb244, 2, none⟩ = some (.slice A0_2 l0_2.length c0_2) := (blk_cell BK244.out 2).trans rfl; have hcz31_3 : w29.cell? ⟨gb244, 3, none⟩ = some (.slice A0_3 l0_3.length c0_3) := (blk_cell BK244.out 3).trans rfl; have hcz31_4 : w29.cell? ⟨gb244, 4, none⟩ = some (.slice A0_4 l0_4.length c0_4) := (blk_cell BK244.out 4).trans rfl; have hfz31_0 := blk_frozen BK244.out 0; have hfz31_1 := blk_frozen BK244.out 1; have hfz31_2 := blk_frozen BK244.out 2; have hfz31_3 := blk_frozen BK244.out 3; have hfz31_4 := blk_frozen BK244.out 4) | ((with_reducible refine gate_builtin (b := .append) (xs := #[.tmp 15, .tmp 17]) rfl ?_); at_builtin; refine Kd.R_append_rows (Kd.int .i64) (w0 := w) w.heap.size rfl (.tmp 15) (.tmp 17) 24 3 (.int .i64 0) 8 rfl Try.underlying24 info3 rfl (by decide) (by omega) v270 y269 l0_2 _ _ _ (fun k_ => some k_ ≠ (.slice Ao20 t253.length co20 : Value).ownBlock ∧ some k_ ≠ (.slice Ao21 t256.length co21 : Value).ownBlock ∧ some k_ ≠ (.slice Ao22 t259.length co22 : Value).ownBlock) (fun _ => False) rfl rfl ?aO ?aR (fun _ _ h => h) (fun _ h => h.elim) ?aF ?aB ?aS ?aL ?_; (case aR => repeat (first | exact (Kd.C_below HR0_2.out HB.out) | (with_reducible refine Kd.C_alloc ?_ _) | (with_reducible refine Kd.C_drewN ?_ _) | (with_reducible refine Kd.C_drew ?_))); (case aB => exact (by repeat (first | (with_reducible first | exact HB.out | apply below_alloc | apply pw_below_drewN | apply below_drew1 | refine below_set ?_ GE244.out | refine below_set ?_ GE245.out | refine below_set ?_ GE262.out) | exact HB.out))); (case aF => exact (fun k_ hk => ⟨Kd.fresh' (Kd.R_lt (by (with_reducible repeat (first | apply Kd.R_alloc | apply Kd.R_drewN | apply Kd.R_drew)); exact HO255.out)) k_ hk, Kd.fresh' (Kd.R_lt (by (with_reducible repeat (first | apply Kd.R_alloc | apply Kd.R_drewN | apply Kd.R_drew)); exact HO258.out)) k_ hk, Kd.fresh' (Kd.R_lt (by (with_reducible repeat (first | apply Kd.R_alloc | apply Kd.R_drewN | apply Kd.R_drew)); exact HO261.out)) k_ hk⟩)); (case aO => exact (by (with_reducible repeat (first | apply Kd.R_alloc | apply Kd.R_drewN | apply Kd.R_drew)); exact Kd.R_mono HO271.out (fun _ hk => ⟨hk.1.1.2, ⟨hk.1.2, hk.2⟩⟩))); (case aS => exact (below_size (by repeat (first | (with_reducible first | exact HB.out | apply below_alloc | apply pw_below_drewN | apply below_drew1 | refine below_set ?_ GE244.out | refine below_set ?_ GE245.out | refine below_set ?_ GE262.out) | exact HB.out)))); (case aL => have := LMc6.out; omega); intro v273 w32 ho hb hg hat; rw [← Ny272.out] at ho; have n0_ := Ak (blk_grown (g := gb244) (o := .cells #[.slice A0_0 l0_0.length c0_0, .slice A0_1 l0_1.length c0_1, .slice A0_2 l0_2.length c0_2, .slice A0_3 l0_3.length c0_3, .slice A0_4 l0_4.length c0_4] 26 (0, 0)) (by (with_reducible repeat (first | refine blk_drewN ?_ _ | refine blk_drew ?_ | refine blk_alloc ?_ _)); exact BK244.out) hg (Kd.R_ne HO271.out BK244.out (by decide))); have n1_ := Ak (blk_grown (g := gb245) (o := .cells #[.slice none 0 0, .slice none 0 0, .slice none 0 0, .slice none 0 0, .slice none 0 0] 26 (0, 0)) (by (with_reducible repeat (first | refine blk_drewN ?_ _ | refine blk_drew ?_ | refine blk_alloc ?_ _)); exact BK245.out) hg (Kd.R_ne HO271.out BK245.out (by decide))); have n2_ := Ak (Kd.R_over' (by (with_reducible repeat (first | apply Kd.R_alloc | apply Kd.R_drewN | apply Kd.R_drew)); exact HO249.out) (Kd.R_typed (by (with_reducible repeat (first | apply Kd.R_alloc | apply Kd.R_drewN | apply Kd.R_drew)); exact HO271.out)) (by decide) hg); have n3_ := Ak (Kd.R_over' (by (with_reducible repeat (first | apply Kd.R_alloc | apply Kd.R_drewN | apply Kd.R_drew)); exact HO252.out) (Kd.R_typed (by (with_reducible repeat (first | apply Kd.R_alloc | apply Kd.R_drewN | apply Kd.R_drew)); exact HO271.out)) (by decide) hg); have n4_ := Ak (Kd.R_after (ok := (fun k_ => some k_ ≠ (.slice Ao21 t256.length co21 : Value).ownBlock ∧ some k_ ≠ (.slice Ao22 t259.length co22 : Value).ownBlock)) (by (with_reducible repeat (first | apply Kd.R_alloc | apply Kd.R_drewN | apply Kd.R_drew)); exact HO255.out) hg hat); have n5_ := Ak (Kd.R_after (ok := (fun k_ => some k_ ≠ (.slice Ao20 t253.length co20 : Value).ownBlock ∧ some k_ ≠ (.slice Ao22 t259.length co22 : Value).ownBlock)) (by (with_reducible repeat (first | apply Kd.R_alloc | apply Kd.R_drewN | apply Kd.R_drew)); exact HO258.out) hg hat); have n6_ := Ak (Kd.R_after (ok := (fun k_ => some k_ ≠ (.slice Ao20 t253.length co20 : Value).ownBlock ∧ some k_ ≠ (.slice Ao21 t256.length co21 : Value).ownBlock)) (by (with_reducible repeat (first | apply Kd.R_alloc | apply Kd.R_drewN | apply Kd.R_drew)); exact HO261.out) hg hat); have n7_ := Ak (blk_grown (g := gb262) (o := .cells #[.slice Ao15 t247.length co15, .slice Ao27 y266.length co27, .slice Ao20 t253.length co20, .slice Ao21 t256.length co21, .slice Ao22 t259.length co22] 26 (0, 0)) (by (with_reducible repeat (first | refine blk_drewN ?_ _ | refine blk_drew ?_ | refine blk_alloc ?_ _)); exact BK262.out) hg (Kd.R_ne HO271.out BK262.out (by decide))); have n8_ := Ak (Kd.R_over' (by (with_reducible repeat (first | apply Kd.R_alloc | apply Kd.R_drewN | apply Kd.R_drew)); exact HO268.out) (Kd.R_typed (by (with_reducible repeat (first | apply Kd.R_alloc | apply Kd.R_drewN | apply Kd.R_drew)); exact HO271.out)) (by decide) hg); have n9_ := Ak (hb); have n10_ := Ak (ho); clear BK244; clear BK245; clear HO249; clear HO252; clear HO255; clear HO258; clear HO261; clear BK262; clear HO268; clear HB; clear HO271; have BK244 := n0_; have BK245 := n1_; have HO249 := n2_; have HO252 := n3_; have HO255 := n4_; have HO258 := n5_; have HO261 := n6_; have BK262 := n7_; have HO268 := n8_; have HB := n9_; have HO274 := n10_; clear n0_ n1_ n2_ n3_ n4_ n5_ n6_ n7_ n8_ n9_ n10_; clear ho hb hg hat; obtain ⟨Ao33, co33, eo33⟩ := Kd.R_slice HO274.out; subst eo33; have hcz34_0 : w32.cell? ⟨gb262, 0, none⟩ = some (.slice Ao15 t247.length co15) := (blk_cell BK262.out 0).trans rfl; have hcz34_1 : w32.cell? ⟨gb262, 1, none⟩ = some (.slice Ao27 y266.length co27) := (blk_cell BK262.out 1).trans rfl; have hcz34_2 : w32.cell? ⟨gb262, 2, none⟩ = some (.slice Ao20 t253.length co20) := (blk_cell BK262.out 2).trans rfl; have hcz34_3 : w32.cell? ⟨gb262, 3, none⟩ = some (.slice Ao21 t256.length co21) := (blk_cell BK262.out 3).trans rfl; have hcz34_4 : w32.cell? ⟨gb262, 4, none⟩ = some (.slice Ao22 t259.length co22) := (blk_cell BK262.out 4).trans rfl; have hfz34_0 := blk_frozen BK262.out 0; have hfz34_1 := blk_frozen BK262.out 1; have hfz34_2 := blk_frozen BK262.out 2; have hfz34_3 := blk_frozen BK262.out 3; have hfz34_4 := blk_frozen BK262.out 4; have hcz35_0 : w32.cell? ⟨gb245, 0, none⟩ = some (.slice none 0 0) := (blk_cell BK245.out 0).trans rfl; have hcz35_1 : w32.cell? ⟨gb245, 1, none⟩ = some (.slice none 0 0) := (blk_cell BK245.out 1).trans rfl; have hcz35_2 : w32.cell? ⟨gb245, 2, none⟩ = some (.slice none 0 0) := (blk_cell BK245.out 2).trans rfl; have hcz35_3 : w32.cell? ⟨gb245, 3, none⟩ = some (.slice none 0 0) := (blk_cell BK245.out 3).trans rfl; have hcz35_4 : w32.cell? ⟨gb245, 4, none⟩ = some (.slice none 0 0) := (blk_cell BK245.out 4).trans rfl; have hfz35_0 := blk_frozen BK245.out 0; have hfz35_1 := blk_frozen BK245.out 1; have hfz35_2 := blk_frozen BK245.out 2; have hfz35_3 := blk_frozen BK245.out 3; have hfz35_4 := blk_frozen BK245.out 4))
    refine bodyPost_ret (results_cell_row rfl _ _ gb245 26 #[.slice Ao15 t247.length co15, .slice Ao27 y266.length co27, .slice Ao20 t253.length co20, .slice Ao33 y272.length co33, .slice Ao22 t259.length co22] (0, 0) _ rfl (by (with_reducible repeat (first | refine blk_drewN ?_ _ | refine blk_drew ?_ | refine blk_alloc ?_ _)); refine blk_put (cs := #[.slice Ao15 t247.length co15, .slice Ao27 y266.length co27, .slice Ao20 t253.length co20, .slice Ao33 y272.length co33, .slice none 0 0]) ?_ 4 _ rfl; (with_reducible repeat (first | refine blk_drewN ?_ _ | refine blk_drew ?_ | refine blk_alloc ?_ _)); refine blk_put (cs := #[.slice Ao15 t247.length co15, .slice Ao27 y266.length co27, .slice Ao20 t253.length co20, .slice none 0 0, .slice none 0 0]) ?_ 3 _ rfl; (with_reducible repeat (first | refine blk_drewN ?_ _ | refine blk_drew ?_ | refine blk_alloc ?_ _)); refine blk_put (cs := #[.slice Ao15 t247.length co15, .slice Ao27 y266.length co27, .slice none 0 0, .slice none 0 0, .slice none 0 0]) ?_ 2 _ rfl; (with_reducible repeat (first | refine blk_drewN ?_ _ | refine blk_drew ?_ | refine blk_alloc ?_ _)); refine blk_put (cs := #[.slice Ao15 t247.length co15, .slice none 0 0, .slice none 0 0, .slice none 0 0, .slice none 0 0]) ?_ 1 _ rfl; (with_reducible repeat (first | refine blk_drewN ?_ _ | refine blk_drew ?_ | refine blk_alloc ?_ _)); refine blk_put (cs := #[.slice none 0 0, .slice none 0 0, .slice none 0 0, .slice none 0 0, .slice none 0 0]) ?_ 0 _ rfl; (with_reducible repeat (first | refine blk_drewN ?_ _ | refine blk_drew ?_ | refine blk_alloc ?_ _)); refine blk_far ?_ NB245_262.out _; (with_reducible repeat (first | refine blk_drewN ?_ _ | refine blk_drew ?_ | refine blk_alloc ?_ _)); exact BK245.out) Try.underlying26 rfl (by kernel_rfl)) rfl ?_
    exact ⟨_, _, _, _, _, by first | rfl | (simp [errW_none, errW_some] <;> rfl) | (simp [*, errW_none, errW_some] <;> rfl), by (with_reducible repeat (first | apply Kd.R_alloc | apply Kd.R_drewN | apply Kd.R_drew)); exact Kd.R_mono (Kd.R_far (p := ⟨gb245, 4, none⟩) (Kd.R_far (p := ⟨gb245, 3, none⟩) (Kd.R_far (p := ⟨gb245, 2, none⟩) (Kd.R_far (p := ⟨gb245, 1, none⟩) (Kd.R_far (p := ⟨gb245, 0, none⟩) (Kd.R_far (p := ⟨gb262, 3, none⟩) (Kd.R_types (Kd.R_types HO249.out BK262.out (by decide)) BK245.out (by decide)) (fun _ hk => hk.1.2) (.slice Ao33 y272.length co33)) (fun _ hk => hk.2) (.slice Ao15 t247.length co15)) (fun _ hk => hk.2) (.slice Ao27 y266.length co27)) (fun _ hk => hk.2) (.slice Ao20 t253.length co20)) (fun _ hk => hk.2) (.slice Ao33 y272.length co33)) (fun _ hk => hk.2) (.slice Ao22 t259.length co22)) (fun _ hk => hk.1.1.2), by (with_reducible repeat (first | apply Kd.R_alloc | apply Kd.R_drewN | apply Kd.R_drew)); exact Kd.R_mono (Kd.R_far (p := ⟨gb245, 4, none⟩) (Kd.R_far (p := ⟨gb245, 3, none⟩) (Kd.R_far (p := ⟨gb245, 2, none⟩) (Kd.R_far (p := ⟨gb245, 1, none⟩) (Kd.R_far (p := ⟨gb245, 0, none⟩) (Kd.R_far (p := ⟨gb262, 3, none⟩) (Kd.R_types (Kd.R_types HO268.out BK262.out (by decide)) BK245.out (by decide)) (fun _ hk => hk.1.2) (.slice Ao33 y272.length co33)) (fun _ hk => hk.2) (.slice Ao15 t247.length co15)) (fun _ hk => hk.2) (.slice Ao27 y266.length co27)) (fun _ hk => hk.2) (.slice Ao20 t253.length co20)) (fun _ hk => hk.2) (.slice Ao33 y272.length co33)) (fun _ hk => hk.2) (.slice Ao22 t259.length co22)) (fun _ hk => hk.1.1.1), by (with_reducible repeat (first | apply Kd.R_alloc | apply Kd.R_drewN | apply Kd.R_drew)); exact Kd.R_mono (Kd.R_far (p := ⟨gb245, 4, none⟩) (Kd.R_far (p := ⟨gb245, 3, none⟩) (Kd.R_far (p := ⟨gb245, 2, none⟩) (Kd.R_far (p := ⟨gb245, 1, none⟩) (Kd.R_far (p := ⟨gb245, 0, none⟩) (Kd.R_far (p := ⟨gb262, 3, none⟩) (Kd.R_types (Kd.R_types HO255.out BK262.out (by decide)) BK245.out (by decide)) (fun _ hk => hk.1.2) (.slice Ao33 y272.length co33)) (fun _ hk => hk.2) (.slice Ao15 t247.length co15)) (fun _ hk => hk.2) (.slice Ao27 y266.length co27)) (fun _ hk => hk.2) (.slice Ao20 t253.length co20)) (fun _ hk => hk.2) (.slice Ao33 y272.length co33)) (fun _ hk => hk.2) (.slice Ao22 t259.length co22)) (fun _ hk => ⟨hk.1.1.2, hk.1.1.1.2⟩), by (with_reducible repeat (first | apply Kd.R_alloc | apply Kd.R_drewN | apply Kd.R_drew)); exact Kd.R_mono (Kd.R_far (p := ⟨gb245, 4, none⟩) (Kd.R_far (p := ⟨gb245, 3, none⟩) (Kd.R_far (p := ⟨gb245, 2, none⟩) (Kd.R_far (p := ⟨gb245, 1, none⟩) (Kd.R_far (p := ⟨gb245, 0, none⟩) (Kd.R_far (p := ⟨gb262, 3, none⟩) (Kd.R_types (Kd.R_types HO274.out BK262.out (by decide)) BK245.out (by decide)) (fun _ hk => hk.1.2) (.slice Ao33 y272.length co33)) (fun _ hk => hk.2) (.slice Ao15 t247.length co15)) (fun _ hk => hk.2) (.slice Ao27 y266.length co27)) (fun _ hk => hk.2) (.slice Ao20 t253.length co20)) (fun _ hk => hk.2) (.slice Ao33 y272.length co33)) (fun _ hk => hk.2) (.slice Ao22 t259.length co22)) (fun _ hk => ⟨hk.1.1.1, hk.1.1.2.2⟩), by (with_reducible repeat (first | apply Kd.R_alloc | apply Kd.R_drewN | apply Kd.R_drew)); exact Kd.R_mono (Kd.R_far (p := ⟨gb245, 4, none⟩) (Kd.R_far (p := ⟨gb245, 3, none⟩) (Kd.R_far (p := ⟨gb245, 2, none⟩) (Kd.R_far (p := ⟨gb245, 1, none⟩) (Kd.R_far (p := ⟨gb245, 0, none⟩) (Kd.R_far (p := ⟨gb262, 3, none⟩) (Kd.R_types (Kd.R_types HO261.out BK262.out (by decide)) BK245.out (by decide)) (fun _ hk => hk.1.2) (.slice Ao33 y272.length co33)) (fun _ hk => hk.2) (.slice Ao15 t247.length co15)) (fun _ hk => hk.2) (.slice Ao27 y266.length co27)) (fun _ hk => hk.2) (.slice Ao20 t253.length co20)) (fun _ hk => hk.2) (.slice Ao33 y272.length co33)) (fun _ hk => hk.2) (.slice Ao22 t259.length co22)) (fun _ hk => ⟨hk.1.1.1.1, hk.1.1.2⟩), by repeat (first | (with_reducible first | exact HB.out | apply below_alloc | apply pw_below_drewN | apply below_drew1 | refine below_set ?_ GE244.out | refine below_set ?_ GE245.out | refine below_set ?_ GE262.out) | exact HB.out)⟩
   ·rw [if_neg c6] at H
    exact absurd H (by simp)
  ·rw [if_neg c5] at H
   exact absurd H (by simp)
 ·replace c3 := Bool.eq_false_iff.mpr c3
  subst c3
  have H1 : (some (([] : List ByteArray), ([] : List ByteArray), ([] : List Int), ([] : List Int), ([] : List Int))) = some (r1, r2, r3, r4, r5) := by rw [if_neg (show ¬ (false = true) by decide)] at H; exact H
  clear H
  have H := H1
  clear H1
  simp only [Option.some.injEq, Prod.mk.injEq] at H
  obtain ⟨rfl, rfl, rfl, rfl, rfl⟩ := H
  go_enter Try.func36, Try.ntmps36
  go_wp2_with (first | ((with_reducible refine gate_dst (N := 1) rfl ?_); refine box_event ?hg (N := 1) ?hd (cs := #[.slice A0_0 l0_0.length c0_0, .slice A0_1 l0_1.length c0_1, .slice A0_2 l0_2.length c0_2, .slice A0_3 l0_3.length c0_3, .slice A0_4 l0_4.length c0_4]) (t := 26) ?hr ?_; (case hd => rfl); (case hg => rfl); (case hr => first | (go_simp; done) | (go_simp; rfl)); intro gb244 hg w36 hbox hb; have n0_ := Ak (below_step (by repeat (first | (with_reducible first | exact HB.out | apply below_alloc | apply pw_below_drewN | apply below_drew1) | exact HB.out)) hb); have n1_ := Ak (hbox); have n2_ := Ak ((by rw [hg]; exact (below_size (by repeat (first | (with_reducible first | exact HB.out | apply below_alloc | apply pw_below_drewN | apply below_drew1) | exact HB.out))) : w.heap.size ≤ gb244)); have n3_ := Ak ((by rw [hg]; exact (below_size (by repeat (first | (with_reducible first | exact HB.out | apply below_alloc | apply pw_below_drewN | apply below_drew1) | exact HB.out))) : w.heap.size ≤ gb244)); clear HB; have HB := n0_; have BK244 := n1_; have GW244 := n2_; have GE244 := n3_; clear n0_ n1_ n2_ n3_; clear hb hbox hg) | ((with_reducible refine gate_dst (N := 2) rfl ?_); refine box_event ?hg (N := 2) ?hd (cs := #[.slice none 0 0, .slice none 0 0, .slice none 0 0, .slice none 0 0, .slice none 0 0]) (t := 26) ?hr ?_; (case hd => rfl); (case hg => rfl); (case hr => first | (go_simp; done) | (go_simp; rfl)); intro gb245 hg w37 hbox hb; have n0_ := Ak (blk_below (g := gb244) (o := .cells #[.slice A0_0 l0_0.length c0_0, .slice A0_1 l0_1.length c0_1, .slice A0_2 l0_2.length c0_2, .slice A0_3 l0_3.length c0_3, .slice A0_4 l0_4.length c0_4] 26 (0, 0)) (by (with_reducible repeat (first | refine blk_drewN ?_ _ | refine blk_drew ?_ | refine blk_alloc ?_ _)); exact BK244.out) hb); have n1_ := Ak (below_step (by repeat (first | (with_reducible first | exact HB.out | apply below_alloc | apply pw_below_drewN | apply below_drew1 | refine below_set ?_ GE244.out) | exact HB.out)) hb); have n2_ := Ak (hbox); have n3_ := Ak ((by rw [hg]; exact (below_size (by repeat (first | (with_reducible first | exact HB.out | apply below_alloc | apply pw_below_drewN | apply below_drew1 | refine below_set ?_ GE244.out) | exact HB.out))) : w.heap.size ≤ gb245)); have n4_ := Ak ((by rw [hg]; exact (below_size (by repeat (first | (with_reducible first | exact HB.out | apply below_alloc | apply pw_below_drewN | apply below_drew1 | refine below_set ?_ GE244.out) | exact HB.out))) : w.heap.size ≤ gb245)); have n5_ := Ak ((by rw [hg]; exact Nat.ne_of_lt (blk_lt (g := gb244) (o := .cells #[.slice A0_0 l0_0.length c0_0, .slice A0_1 l0_1.length c0_1, .slice A0_2 l0_2.length c0_2, .slice A0_3 l0_3.length c0_3, .slice A0_4 l0_4.length c0_4] 26 (0, 0)) (by (with_reducible repeat (first | refine blk_drewN ?_ _ | refine blk_drew ?_ | refine blk_alloc ?_ _)); exact BK244.out)) : gb244 ≠ gb245)); have n6_ := Ak ((by rw [hg]; exact Nat.ne_of_gt (blk_lt (g := gb244) (o := .cells #[.slice A0_0 l0_0.length c0_0, .slice A0_1 l0_1.length c0_1, .slice A0_2 l0_2.length c0_2, .slice A0_3 l0_3.length c0_3, .slice A0_4 l0_4.length c0_4] 26 (0, 0)) (by (with_reducible repeat (first | refine blk_drewN ?_ _ | refine blk_drew ?_ | refine blk_alloc ?_ _)); exact BK244.out)) : gb245 ≠ gb244)); clear BK244; clear HB; have BK244 := n0_; have HB := n1_; have BK245 := n2_; have GW245 := n3_; have GE245 := n4_; have NB244_245 := n5_; have NB245_244 := n6_; clear n0_ n1_ n2_ n3_ n4_ n5_ n6_; clear hb hbox hg; have hnb38 := NB244_245.out; have hnc38 := NB245_244.out; have hcz39_0 : w37.cell? ⟨gb244, 0, none⟩ = some (.slice A0_0 l0_0.length c0_0) := (blk_cell BK244.out 0).trans rfl; have hcz39_1 : w37.cell? ⟨gb244, 1, none⟩ = some (.slice A0_1 l0_1.length c0_1) := (blk_cell BK244.out 1).trans rfl; have hcz39_2 : w37.cell? ⟨gb244, 2, none⟩ = some (.slice A0_2 l0_2.length c0_2) := (blk_cell BK244.out 2).trans rfl; have hcz39_3 : w37.cell? ⟨gb244, 3, none⟩ = some (.slice A0_3 l0_3.length c0_3) := (blk_cell BK244.out 3).trans rfl; have hcz39_4 : w37.cell? ⟨gb244, 4, none⟩ = some (.slice A0_4 l0_4.length c0_4) := (blk_cell BK244.out 4).trans rfl; have hfz39_0 := blk_frozen BK244.out 0; have hfz39_1 := blk_frozen BK244.out 1; have hfz39_2 := blk_frozen BK244.out 2; have hfz39_3 := blk_frozen BK244.out 3; have hfz39_4 := blk_frozen BK244.out 4) | ((with_reducible refine gate_callee (f := 19) rfl ?_); refine goesL_ (some 5) rfl rfl Try.func19 (by kernel_rfl) rfl #[.agg #[.slice A0_0 l0_0.length c0_0, .slice A0_1 l0_1.length c0_1, .slice A0_2 l0_2.length c0_2, .slice A0_3 l0_3.length c0_3, .slice A0_4 l0_4.length c0_4]] rfl (by (try simp only [List.map_toArray, List.map_cons, List.map_nil]); first | done | rfl | (simp only [List.length_drop, List.length_take]; rfl)) ?_; (with_reducible refine (spec_StoreOk.calls k _ _ l0_0 _ _ l0_1 _ _ l0_2 _ _ l0_3 _ _ l0_4 false _ ?side1 ?side2 ?side3 ?side4 ?side5 ?side6 ?side7 ?side8 ?side9 ?side10 A2.out).mono ?_); (case side1 => repeat (first | exact (Kd.C_below HR0_0.out HB.out) | (with_reducible refine Kd.C_alloc ?_ _) | (with_reducible refine Kd.C_drewN ?_ _) | (with_reducible refine Kd.C_drew ?_))); (case side2 => exact HC0_0.out); (case side3 => repeat (first | exact (Kd.C_below HR0_1.out HB.out) | (with_reducible refine Kd.C_alloc ?_ _) | (with_reducible refine Kd.C_drewN ?_ _) | (with_reducible refine Kd.C_drew ?_))); (case side4 => exact HC0_1.out); (case side5 => repeat (first | exact (Kd.C_below HR0_2.out HB.out) | (with_reducible refine Kd.C_alloc ?_ _) | (with_reducible refine Kd.C_drewN ?_ _) | (with_reducible refine Kd.C_drew ?_))); (case side6 => exact HC0_2.out); (case side7 => repeat (first | exact (Kd.C_below HR0_3.out HB.out) | (with_reducible refine Kd.C_alloc ?_ _) | (with_reducible refine Kd.C_drewN ?_ _) | (with_reducible refine Kd.C_drew ?_))); (case side8 => exact HC0_3.out); (case side9 => repeat (first | exact (Kd.C_below HR0_4.out HB.out) | (with_reducible refine Kd.C_alloc ?_ _) | (with_reducible refine Kd.C_drewN ?_ _) | (with_reducible refine Kd.C_drew ?_))); (case side10 => exact HC0_4.out); rintro e w40 ⟨rfl, hb⟩; refine ⟨_, rfl, ?_⟩; have n0_ := Ak (blk_below (g := gb244) (o := .cells #[.slice A0_0 l0_0.length c0_0, .slice A0_1 l0_1.length c0_1, .slice A0_2 l0_2.length c0_2, .slice A0_3 l0_3.length c0_3, .slice A0_4 l0_4.length c0_4] 26 (0, 0)) (by (with_reducible repeat (first | refine blk_drewN ?_ _ | refine blk_drew ?_ | refine blk_alloc ?_ _)); exact BK244.out) hb); have n1_ := Ak (blk_below (g := gb245) (o := .cells #[.slice none 0 0, .slice none 0 0, .slice none 0 0, .slice none 0 0, .slice none 0 0] 26 (0, 0)) (by (with_reducible repeat (first | refine blk_drewN ?_ _ | refine blk_drew ?_ | refine blk_alloc ?_ _)); exact BK245.out) hb); have n2_ := Ak (below_step (by repeat (first | (with_reducible first | exact HB.out | apply below_alloc | apply pw_below_drewN | apply below_drew1 | refine below_set ?_ GE244.out | refine below_set ?_ GE245.out) | exact HB.out)) hb); clear BK244; clear BK245; clear HB; have BK244 := n0_; have BK245 := n1_; have HB := n2_; clear n0_ n1_ n2_; (try clear hb); (try clear hb2); (try clear hk); (try clear hi); have hcz41_0 : w40.cell? ⟨gb245, 0, none⟩ = some (.slice none 0 0) := (blk_cell BK245.out 0).trans rfl; have hcz41_1 : w40.cell? ⟨gb245, 1, none⟩ = some (.slice none 0 0) := (blk_cell BK245.out 1).trans rfl; have hcz41_2 : w40.cell? ⟨gb245, 2, none⟩ = some (.slice none 0 0) := (blk_cell BK245.out 2).trans rfl; have hcz41_3 : w40.cell? ⟨gb245, 3, none⟩ = some (.slice none 0 0) := (blk_cell BK245.out 3).trans rfl; have hcz41_4 : w40.cell? ⟨gb245, 4, none⟩ = some (.slice none 0 0) := (blk_cell BK245.out 4).trans rfl; have hfz41_0 := blk_frozen BK245.out 0; have hfz41_1 := blk_frozen BK245.out 1; have hfz41_2 := blk_frozen BK245.out 2; have hfz41_3 := blk_frozen BK245.out 3; have hfz41_4 := blk_frozen BK245.out 4))
  refine bodyPost_ret (results_cell_row rfl _ _ gb245 26 #[.slice none 0 0, .slice none 0 0, .slice none 0 0, .slice none 0 0, .slice none 0 0] (0, 0) _ rfl (by (with_reducible repeat (first | refine blk_drewN ?_ _ | refine blk_drew ?_ | refine blk_alloc ?_ _)); refine blk_put (cs := #[.slice none 0 0, .slice none 0 0, .slice none 0 0, .slice none 0 0, .slice none 0 0]) ?_ 4 _ rfl; (with_reducible repeat (first | refine blk_drewN ?_ _ | refine blk_drew ?_ | refine blk_alloc ?_ _)); refine blk_put (cs := #[.slice none 0 0, .slice none 0 0, .slice none 0 0, .slice none 0 0, .slice none 0 0]) ?_ 3 _ rfl; (with_reducible repeat (first | refine blk_drewN ?_ _ | refine blk_drew ?_ | refine blk_alloc ?_ _)); refine blk_put (cs := #[.slice none 0 0, .slice none 0 0, .slice none 0 0, .slice none 0 0, .slice none 0 0]) ?_ 2 _ rfl; (with_reducible repeat (first | refine blk_drewN ?_ _ | refine blk_drew ?_ | refine blk_alloc ?_ _)); refine blk_put (cs := #[.slice none 0 0, .slice none 0 0, .slice none 0 0, .slice none 0 0, .slice none 0 0]) ?_ 1 _ rfl; (with_reducible repeat (first | refine blk_drewN ?_ _ | refine blk_drew ?_ | refine blk_alloc ?_ _)); refine blk_put (cs := #[.slice none 0 0, .slice none 0 0, .slice none 0 0, .slice none 0 0, .slice none 0 0]) ?_ 0 _ rfl; (with_reducible repeat (first | refine blk_drewN ?_ _ | refine blk_drew ?_ | refine blk_alloc ?_ _)); exact BK245.out) Try.underlying26 rfl (by kernel_rfl)) rfl ?_
  exact ⟨_, _, _, _, _, by first | rfl | (simp [errW_none, errW_some] <;> rfl) | (simp [*, errW_none, errW_some] <;> rfl), by first | exact Kd.R_nil _ _ _ _ _ | exact Kd.N_nil _ _ _ _ _ | exact Kd.V_nil _ _ _ _ _ | exact Kd.Q_nil _ _ _ _ _ | exact Kd.S_nil _ _ _ _ _, by first | exact Kd.R_nil _ _ _ _ _ | exact Kd.N_nil _ _ _ _ _ | exact Kd.V_nil _ _ _ _ _ | exact Kd.Q_nil _ _ _ _ _ | exact Kd.S_nil _ _ _ _ _, by first | exact Kd.R_nil _ _ _ _ _ | exact Kd.N_nil _ _ _ _ _ | exact Kd.V_nil _ _ _ _ _ | exact Kd.Q_nil _ _ _ _ _ | exact Kd.S_nil _ _ _ _ _, by first | exact Kd.R_nil _ _ _ _ _ | exact Kd.N_nil _ _ _ _ _ | exact Kd.V_nil _ _ _ _ _ | exact Kd.Q_nil _ _ _ _ _ | exact Kd.S_nil _ _ _ _ _, by first | exact Kd.R_nil _ _ _ _ _ | exact Kd.N_nil _ _ _ _ _ | exact Kd.V_nil _ _ _ _ _ | exact Kd.Q_nil _ _ _ _ _ | exact Kd.S_nil _ _ _ _ _, by repeat (first | (with_reducible first | exact HB.out | apply below_alloc | apply pw_below_drewN | apply below_drew1 | refine below_set ?_ GE244.out | refine below_set ?_ GE245.out) | exact HB.out)⟩
end Go.Proofs.Ytmekkapacbdbeaa.P
namespace Go.Proofs.Ytmekkapacbdbeaa.P
open Go.RowKit Go.Proofs.YtmekkapacbdbeaaW.PrintWords Go.Proofs.YtmekkapacbdbeaaW.PrintLast Go.Proofs.YtmekkapacbdbeaaW.PrintMore
attribute [local go_sem] max2_int min2_int max_two min_two max_three min_three max_four min_four   
set_option linter.unusedVariables false
set_option linter.unusedSimpArgs false
end Go.Proofs.Ytmekkapacbdbeaa.P

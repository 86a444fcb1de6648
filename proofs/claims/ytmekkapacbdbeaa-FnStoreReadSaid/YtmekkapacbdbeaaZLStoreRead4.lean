/- Part 4 of the proof of FnStoreRead: words, contracts of callees, plain lemmas. -/
import Derived.Test.YtmekkapacbdbeaaZLStoreRead3
namespace Go.Proofs.Ytmekkapacbdbeaa.P
open Go.RowKit Go.Proofs.YtmekkapacbdbeaaW.PrintWords Go.Proofs.YtmekkapacbdbeaaW.PrintLast Go.Proofs.YtmekkapacbdbeaaW.PrintMore
attribute [local go_sem] max2_int min2_int max_two min_two max_three min_three max_four min_four   
set_option linter.unusedVariables false
set_option linter.unusedSimpArgs false
def spec_StoreFall.f (k : Nat) (l0_0 : List ByteArray) (l0_1 : List ByteArray) (l0_2 : List Int) (l0_3 : List Int) (l0_4 : List Int) : Option (List ByteArray × List ByteArray × List Int × List Int × List Int) := (spec_StoreOk.f k l0_0 l0_1 l0_2 l0_3 l0_4).bind fun t215 => (if t215 = true then ((spec_l5Copy.f l0_0 l0_1 l0_2 l0_3 l0_4).bind fun bt216 => ((some (([] : List ByteArray) : List ByteArray)).bind fun y232 => (if y232.length + l0_1.length < 8796093022208 then ((some (([] : List Int) : List Int)).bind fun y238 => (if y238.length + l0_3.length < 17592186044416 then (some ((y232 ++ l0_1), bt216.2.1, (y238 ++ l0_3), bt216.2.2.2.1, bt216.2.2.2.2)) else (none))) else (none)))) else (some (([] : List ByteArray), ([] : List ByteArray), ([] : List Int), ([] : List Int), ([] : List Int))))
set_option maxHeartbeats 8000000 in
set_option maxRecDepth 100000 in
theorem spec_StoreFall.calls (k : Nat) (A0_0 : Option Addr) (c0_0 : Nat) (l0_0 : List ByteArray) (A0_1 : Option Addr) (c0_1 : Nat) (l0_1 : List ByteArray) (A0_2 : Option Addr) (c0_2 : Nat) (l0_2 : List Int) (A0_3 : Option Addr) (c0_3 : Nat) (l0_3 : List Int) (A0_4 : Option Addr) (c0_4 : Nat) (l0_4 : List Int) (r1 : List ByteArray) (r2 : List ByteArray) (r3 : List Int) (r4 : List Int) (r5 : List Int) (w : World) (hr0_0 : Kd.C Kd.string w A0_0 l0_0.length l0_0) (hc0_0 : l0_0.length ≤ c0_0) (hr0_1 : Kd.C Kd.string w A0_1 l0_1.length l0_1) (hc0_1 : l0_1.length ≤ c0_1) (hr0_2 : Kd.C (Kd.int .i64) w A0_2 l0_2.length l0_2) (hc0_2 : l0_2.length ≤ c0_2) (hr0_3 : Kd.C (Kd.int .i64) w A0_3 l0_3.length l0_3) (hc0_3 : l0_3.length ≤ c0_3) (hr0_4 : Kd.C (Kd.int .i64) w A0_4 l0_4.length l0_4) (hc0_4 : l0_4.length ≤ c0_4) (h : spec_StoreFall.f k l0_0 l0_1 l0_2 l0_3 l0_4 = some (r1, r2, r3, r4, r5)) :
  Calls Try.prog 35 #[.agg #[.slice A0_0 l0_0.length c0_0, .slice A0_1 l0_1.length c0_1, .slice A0_2 l0_2.length c0_2, .slice A0_3 l0_3.length c0_3, .slice A0_4 l0_4.length c0_4]] w fun e w' => ∃ v0_ v1_ v2_ v3_ v4_ : Value, e = .returned (.agg #[v0_, v1_, v2_, v3_, v4_]) ∧ Kd.R Kd.string 9 w' w.heap.size (fun k_ => some k_ ≠ (v1_ : Value).ownBlock) v0_ r1 ∧ Kd.R Kd.string 9 w' w.heap.size (fun k_ => some k_ ≠ (v0_ : Value).ownBlock) v1_ r2 ∧ Kd.R (Kd.int .i64) 3 w' w.heap.size (fun k_ => some k_ ≠ (v3_ : Value).ownBlock ∧ some k_ ≠ (v4_ : Value).ownBlock) v2_ r3 ∧ Kd.R (Kd.int .i64) 3 w' w.heap.size (fun k_ => some k_ ≠ (v2_ : Value).ownBlock ∧ some k_ ≠ (v4_ : Value).ownBlock) v3_ r4 ∧ Kd.R (Kd.int .i64) 3 w' w.heap.size (fun k_ => some k_ ≠ (v2_ : Value).ownBlock ∧ some k_ ≠ (v3_ : Value).ownBlock) v4_ r5 ∧ Below w.heap.size w w' := by
 have hu26 := Try.underlying26
 have HR0_0 := Ak hr0_0
 have HC0_0 := Ak hc0_0
 clear hr0_0 hc0_0
 have HR0_1 := Ak hr0_1
 have HC0_1 := Ak hc0_1
 clear hr0_1 hc0_1
 have HR0_2 := Ak hr0_2
 have HC0_2 := Ak hc0_2
 clear hr0_2 hc0_2
 have HR0_3 := Ak hr0_3
 have HC0_3 := Ak hc0_3
 clear hr0_3 hc0_3
 have HR0_4 := Ak hr0_4
 have HC0_4 := Ak hc0_4
 clear hr0_4 hc0_4
 have HB := Ak (Below.refl w.heap.size w)
 have H : ((spec_StoreOk.f k l0_0 l0_1 l0_2 l0_3 l0_4).bind fun t215 => (if t215 = true then ((spec_l5Copy.f l0_0 l0_1 l0_2 l0_3 l0_4).bind fun bt216 => ((some (([] : List ByteArray) : List ByteArray)).bind fun y232 => (if y232.length + l0_1.length < 8796093022208 then ((some (([] : List Int) : List Int)).bind fun y238 => (if y238.length + l0_3.length < 17592186044416 then (some ((y232 ++ l0_1), bt216.2.1, (y238 ++ l0_3), bt216.2.2.2.1, bt216.2.2.2.2)) else (none))) else (none)))) else (some (([] : List ByteArray), ([] : List ByteArray), ([] : List Int), ([] : List Int), ([] : List Int))))) = some (r1, r2, r3, r4, r5) := h
 clear h
 replace H := Option.bind_eq_some_iff.mp H
 obtain ⟨t215, A20, H⟩ := H
 replace H : (if t215 = true then ((spec_l5Copy.f l0_0 l0_1 l0_2 l0_3 l0_4).bind fun bt216 => ((some (([] : List ByteArray) : List ByteArray)).bind fun y232 => (if y232.length + l0_1.length < 8796093022208 then ((some (([] : List Int) : List Int)).bind fun y238 => (if y238.length + l0_3.length < 17592186044416 then (some ((y232 ++ l0_1), bt216.2.1, (y238 ++ l0_3), bt216.2.2.2.1, bt216.2.2.2.2)) else (none))) else (none)))) else (some (([] : List ByteArray), ([] : List ByteArray), ([] : List Int), ([] : List Int), ([] : List Int)))) = some (r1, r2, r3, r4, r5) := H
 have A2 := Ak A20
 clear A20
 by_cases c3 : t215 = true
 ·subst c3
  have H1 : ((spec_l5Copy.f l0_0 l0_1 l0_2 l0_3 l0_4).bind fun bt216 => ((some (([] : List ByteArray) : List ByteArray)).bind fun y232 => (if y232.length + l0_1.length < 8796093022208 then ((some (([] : List Int) : List Int)).bind fun y238 => (if y238.length + l0_3.length < 17592186044416 then (some ((y232 ++ l0_1), bt216.2.1, (y238 ++ l0_3), bt216.2.2.2.1, bt216.2.2.2.2)) else (none))) else (none)))) = some (r1, r2, r3, r4, r5) := by rw [if_pos rfl] at H; exact H
  clear H
  have H := H1
  clear H1
  replace H := Option.bind_eq_some_iff.mp H
  obtain ⟨⟨t216, t219, t222, t225, t228⟩, A40, H⟩ := H
  replace H : ((some (([] : List ByteArray) : List ByteArray)).bind fun y232 => (if y232.length + l0_1.length < 8796093022208 then ((some (([] : List Int) : List Int)).bind fun y238 => (if y238.length + l0_3.length < 17592186044416 then (some ((y232 ++ l0_1), t219, (y238 ++ l0_3), t225, t228)) else (none))) else (none))) = some (r1, r2, r3, r4, r5) := H
  have A4 := Ak A40
  clear A40
  obtain ⟨y232, hy232⟩ : ∃ y_ : List ByteArray, y_ = (([] : List ByteArray)) := ⟨_, rfl⟩
  replace H : (if y232.length + l0_1.length < 8796093022208 then ((some (([] : List Int) : List Int)).bind fun y238 => (if y238.length + l0_3.length < 17592186044416 then (some ((y232 ++ l0_1), t219, (y238 ++ l0_3), t225, t228)) else (none))) else (none)) = some (r1, r2, r3, r4, r5) := by first | (rw [hy232]; with_reducible exact H) | (have H2_ := (Option.bind_some _ _).symm.trans H; rw [hy232]; with_reducible exact H2_) | (have H2_ := (Option.bind_some _ _).symm.trans H; with_reducible exact H2_) | with_reducible exact H | (rw [hy232]; exact H) | exact H
  have Ny232 := Ak hy232
  clear hy232
  by_cases c5 : y232.length + l0_1.length < 8796093022208
  ·rw [if_pos c5] at H
   have LMc5 := Ak c5
   clear c5
   obtain ⟨y235, hy235⟩ : ∃ y_ : List ByteArray, y_ = (y232 ++ l0_1) := ⟨_, rfl⟩
   replace H : ((some (([] : List Int) : List Int)).bind fun y238 => (if y238.length + l0_3.length < 17592186044416 then (some (y235, t219, (y238 ++ l0_3), t225, t228)) else (none))) = some (r1, r2, r3, r4, r5) := by first | (rw [hy235]; with_reducible exact H) | (have H2_ := (Option.bind_some _ _).symm.trans H; rw [hy235]; with_reducible exact H2_) | (have H2_ := (Option.bind_some _ _).symm.trans H; with_reducible exact H2_) | with_reducible exact H | (rw [hy235]; exact H) | exact H
   have Ny235 := Ak hy235
   clear hy235
   obtain ⟨y238, hy238⟩ : ∃ y_ : List Int, y_ = (([] : List Int)) := ⟨_, rfl⟩
   replace H : (if y238.length + l0_3.length < 17592186044416 then (some (y235, t219, (y238 ++ l0_3), t225, t228)) else (none)) = some (r1, r2, r3, r4, r5) := by first | (rw [hy238]; with_reducible exact H) | (have H2_ := (Option.bind_some _ _).symm.trans H; rw [hy238]; with_reducible exact H2_) | (have H2_ := (Option.bind_some _ _).symm.trans H; with_reducible exact H2_) | with_reducible exact H | (rw [hy238]; exact H) | exact H
   have Ny238 := Ak hy238
   clear hy238
   by_cases c6 : y238.length + l0_3.length < 17592186044416
   ·rw [if_pos c6] at H
    have LMc6 := Ak c6
    clear c6
    obtain ⟨y241, hy241⟩ : ∃ y_ : List Int, y_ = (y238 ++ l0_3) := ⟨_, rfl⟩
    replace H : (some (y235, t219, y241, t225, t228)) = some (r1, r2, r3, r4, r5) := by first | (rw [hy241]; with_reducible exact H) | (have H2_ := (Option.bind_some _ _).symm.trans H; rw [hy241]; with_reducible exact H2_) | (have H2_ := (Option.bind_some _ _).symm.trans H; with_reducible exact H2_) | with_reducible exact H | (rw [hy241]; exact H) | exact H
    have Ny241 := Ak hy241
    clear hy241
    simp only [Option.some.injEq, Prod.mk.injEq] at H
    obtain ⟨rfl, rfl, rfl, rfl, rfl⟩ := H
    go_enter Try.func35, Try.ntmps35
    go_wp2_with (first | ((with_reducible refine gate_dst (N := 1) rfl ?_); refine box_event ?hg (N := 1) ?hd (cs := #[.slice A0_0 l0_0.length c0_0, .slice A0_1 l0_1.length c0_1, .slice A0_2 l0_2.length c0_2, .slice A0_3 l0_3.length c0_3, .slice A0_4 l0_4.length c0_4]) (t := 26) ?hr ?_; (case hd => rfl); (case hg => rfl); (case hr => first | (go_simp; done) | (go_simp; rfl)); intro gb213 hg w7 hbox hb; have n0_ := Ak (below_step (by repeat (first | (with_reducible first | exact HB.out | apply below_alloc | apply pw_below_drewN | apply below_drew1) | exact HB.out)) hb); have n1_ := Ak (hbox); have n2_ := Ak ((by rw [hg]; exact (below_size (by repeat (first | (with_reducible first | exact HB.out | apply below_alloc | apply pw_below_drewN | apply below_drew1) | exact HB.out))) : w.heap.size ≤ gb213)); have n3_ := Ak ((by rw [hg]; exact (below_size (by repeat (first | (with_reducible first | exact HB.out | apply below_alloc | apply pw_below_drewN | apply below_drew1) | exact HB.out))) : w.heap.size ≤ gb213)); clear HB; have HB := n0_; have BK213 := n1_; have GW213 := n2_; have GE213 := n3_; clear n0_ n1_ n2_ n3_; clear hb hbox hg) | ((with_reducible refine gate_dst (N := 2) rfl ?_); refine box_event ?hg (N := 2) ?hd (cs := #[.slice none 0 0, .slice none 0 0, .slice none 0 0, .slice none 0 0, .slice none 0 0]) (t := 26) ?hr ?_; (case hd => rfl); (case hg => rfl); (case hr => first | (go_simp; done) | (go_simp; rfl)); intro gb214 hg w8 hbox hb; have n0_ := Ak (blk_below (g := gb213) (o := .cells #[.slice A0_0 l0_0.length c0_0, .slice A0_1 l0_1.length c0_1, .slice A0_2 l0_2.length c0_2, .slice A0_3 l0_3.length c0_3, .slice A0_4 l0_4.length c0_4] 26 (0, 0)) (by (with_reducible repeat (first | refine blk_drewN ?_ _ | refine blk_drew ?_ | refine blk_alloc ?_ _)); exact BK213.out) hb); have n1_ := Ak (below_step (by repeat (first | (with_reducible first | exact HB.out | apply below_alloc | apply pw_below_drewN | apply below_drew1 | refine below_set ?_ GE213.out) | exact HB.out)) hb); have n2_ := Ak (hbox); have n3_ := Ak ((by rw [hg]; exact (below_size (by repeat (first | (with_reducible first | exact HB.out | apply below_alloc | apply pw_below_drewN | apply below_drew1 | refine below_set ?_ GE213.out) | exact HB.out))) : w.heap.size ≤ gb214)); have n4_ := Ak ((by rw [hg]; exact (below_size (by repeat (first | (with_reducible first | exact HB.out | apply below_alloc | apply pw_below_drewN | apply below_drew1 | refine below_set ?_ GE213.out) | exact HB.out))) : w.heap.size ≤ gb214)); have n5_ := Ak ((by rw [hg]; exact Nat.ne_of_lt (blk_lt (g := gb213) (o := .cells #[.slice A0_0 l0_0.length c0_0, .slice A0_1 l0_1.length c0_1, .slice A0_2 l0_2.length c0_2, .slice A0_3 l0_3.length c0_3, .slice A0_4 l0_4.length c0_4] 26 (0, 0)) (by (with_reducible repeat (first | refine blk_drewN ?_ _ | refine blk_drew ?_ | refine blk_alloc ?_ _)); exact BK213.out)) : gb213 ≠ gb214)); have n6_ := Ak ((by rw [hg]; exact Nat.ne_of_gt (blk_lt (g := gb213) (o := .cells #[.slice A0_0 l0_0.length c0_0, .slice A0_1 l0_1.length c0_1, .slice A0_2 l0_2.length c0_2, .slice A0_3 l0_3.length c0_3, .slice A0_4 l0_4.length c0_4] 26 (0, 0)) (by (with_reducible repeat (first | refine blk_drewN ?_ _ | refine blk_drew ?_ | refine blk_alloc ?_ _)); exact BK213.out)) : gb214 ≠ gb213)); clear BK213; clear HB; have BK213 := n0_; have HB := n1_; have BK214 := n2_; have GW214 := n3_; have GE214 := n4_; have NB213_214 := n5_; have NB214_213 := n6_; clear n0_ n1_ n2_ n3_ n4_ n5_ n6_; clear hb hbox hg; have hnb9 := NB213_214.out; have hnc9 := NB214_213.out; have hcz10_0 : w8.cell? ⟨gb213, 0, none⟩ = some (.slice A0_0 l0_0.length c0_0) := (blk_cell BK213.out 0).trans rfl; have hcz10_1 : w8.cell? ⟨gb213, 1, none⟩ = some (.slice A0_1 l0_1.length c0_1) := (blk_cell BK213.out 1).trans rfl; have hcz10_2 : w8.cell? ⟨gb213, 2, none⟩ = some (.slice A0_2 l0_2.length c0_2) := (blk_cell BK213.out 2).trans rfl; have hcz10_3 : w8.cell? ⟨gb213, 3, none⟩ = some (.slice A0_3 l0_3.length c0_3) := (blk_cell BK213.out 3).trans rfl; have hcz10_4 : w8.cell? ⟨gb213, 4, none⟩ = some (.slice A0_4 l0_4.length c0_4) := (blk_cell BK213.out 4).trans rfl; have hfz10_0 := blk_frozen BK213.out 0; have hfz10_1 := blk_frozen BK213.out 1; have hfz10_2 := blk_frozen BK213.out 2; have hfz10_3 := blk_frozen BK213.out 3; have hfz10_4 := blk_frozen BK213.out 4) | ((with_reducible refine gate_callee (f := 19) rfl ?_); refine goesL_ (some 5) rfl rfl Try.func19 (by kernel_rfl) rfl #[.agg #[.slice A0_0 l0_0.length c0_0, .slice A0_1 l0_1.length c0_1, .slice A0_2 l0_2.length c0_2, .slice A0_3 l0_3.length c0_3, .slice A0_4 l0_4.length c0_4]] rfl (by (try simp only [List.map_toArray, List.map_cons, List.map_nil]); first | done | rfl | (simp only [List.length_drop, List.length_take]; rfl)) ?_; (with_reducible refine (spec_StoreOk.calls k _ _ l0_0 _ _ l0_1 _ _ l0_2 _ _ l0_3 _ _ l0_4 true _ ?side1 ?side2 ?side3 ?side4 ?side5 ?side6 ?side7 ?side8 ?side9 ?side10 A2.out).mono ?_); (case side1 => repeat (first | exact (Kd.C_below HR0_0.out HB.out) | (with_reducible refine Kd.C_alloc ?_ _) | (with_reducible refine Kd.C_drewN ?_ _) | (with_reducible refine Kd.C_drew ?_))); (case side2 => exact HC0_0.out); (case side3 => repeat (first | exact (Kd.C_below HR0_1.out HB.out) | (with_reducible refine Kd.C_alloc ?_ _) | (with_reducible refine Kd.C_drewN ?_ _) | (with_reducible refine Kd.C_drew ?_))); (case side4 => exact HC0_1.out); (case side5 => repeat (first | exact (Kd.C_below HR0_2.out HB.out) | (with_reducible refine Kd.C_alloc ?_ _) | (with_reducible refine Kd.C_drewN ?_ _) | (with_reducible refine Kd.C_drew ?_))); (case side6 => exact HC0_2.out); (case side7 => repeat (first | exact (Kd.C_below HR0_3.out HB.out) | (with_reducible refine Kd.C_alloc ?_ _) | (with_reducible refine Kd.C_drewN ?_ _) | (with_reducible refine Kd.C_drew ?_))); (case side8 => exact HC0_3.out); (case side9 => repeat (first | exact (Kd.C_below HR0_4.out HB.out) | (with_reducible refine Kd.C_alloc ?_ _) | (with_reducible refine Kd.C_drewN ?_ _) | (with_reducible refine Kd.C_drew ?_))); (case side10 => exact HC0_4.out); rintro e w11 ⟨rfl, hb⟩; refine ⟨_, rfl, ?_⟩; have n0_ := Ak (blk_below (g := gb213) (o := .cells #[.slice A0_0 l0_0.length c0_0, .slice A0_1 l0_1.length c0_1, .slice A0_2 l0_2.length c0_2, .slice A0_3 l0_3.length c0_3, .slice A0_4 l0_4.length c0_4] 26 (0, 0)) (by (with_reducible repeat (first | refine blk_drewN ?_ _ | refine blk_drew ?_ | refine blk_alloc ?_ _)); exact BK213.out) hb); have n1_ := Ak (blk_below (g := gb214) (o := .cells #[.slice none 0 0, .slice none 0 0, .slice none 0 0, .slice none 0 0, .slice none 0 0] 26 (0, 0)) (by (with_reducible repeat (first | refine blk_drewN ?_ _ | refine blk_drew ?_ | refine blk_alloc ?_ _)); exact BK214.out) hb); have n2_ := Ak (below_step (by repeat (first | (with_reducible first | exact HB.out | apply below_alloc | apply pw_below_drewN | apply below_drew1 | refine below_set ?_ GE213.out | refine below_set ?_ GE214.out) | exact HB.out)) hb); clear BK213; clear BK214; clear HB; have BK213 := n0_; have BK214 := n1_; have HB := n2_; clear n0_ n1_ n2_; (try clear hb); (try clear hb2); (try clear hk); (try clear hi); have hcz12_0 : w11.cell? ⟨gb213, 0, none⟩ = some (.slice A0_0 l0_0.length c0_0) := (blk_cell BK213.out 0).trans rfl; have hcz12_1 : w11.cell? ⟨gb213, 1, none⟩ = some (.slice A0_1 l0_1.length c0_1) := (blk_cell BK213.out 1).trans rfl; have hcz12_2 : w11.cell? ⟨gb213, 2, none⟩ = some (.slice A0_2 l0_2.length c0_2) := (blk_cell BK213.out 2).trans rfl; have hcz12_3 : w11.cell? ⟨gb213, 3, none⟩ = some (.slice A0_3 l0_3.length c0_3) := (blk_cell BK213.out 3).trans rfl; have hcz12_4 : w11.cell? ⟨gb213, 4, none⟩ = some (.slice A0_4 l0_4.length c0_4) := (blk_cell BK213.out 4).trans rfl; have hfz12_0 := blk_frozen BK213.out 0; have hfz12_1 := blk_frozen BK213.out 1; have hfz12_2 := blk_frozen BK213.out 2; have hfz12_3 := blk_frozen BK213.out 3; have hfz12_4 := blk_frozen BK213.out 4) | ((with_reducible refine gate_callee (f := 50) rfl ?_); refine goesL_ (some 9) rfl rfl Try.func50 (by kernel_rfl) rfl #[.agg #[.slice A0_0 l0_0.length c0_0, .slice A0_1 l0_1.length c0_1, .slice A0_2 l0_2.length c0_2, .slice A0_3 l0_3.length c0_3, .slice A0_4 l0_4.length c0_4]] rfl (by (try simp only [List.map_toArray, List.map_cons, List.map_nil]); first | done | rfl | (simp only [List.length_drop, List.length_take]; rfl)) ?_; (with_reducible refine (spec_l5Copy.calls _ _ l0_0 _ _ l0_1 _ _ l0_2 _ _ l0_3 _ _ l0_4 t216 t219 t222 t225 t228 _ ?side1 ?side2 ?side3 ?side4 ?side5 ?side6 ?side7 ?side8 ?side9 ?side10 A4.out).mono ?_); (case side1 => repeat (first | exact (Kd.C_below HR0_0.out HB.out) | (with_reducible refine Kd.C_alloc ?_ _) | (with_reducible refine Kd.C_drewN ?_ _) | (with_reducible refine Kd.C_drew ?_))); (case side2 => exact HC0_0.out); (case side3 => repeat (first | exact (Kd.C_below HR0_1.out HB.out) | (with_reducible refine Kd.C_alloc ?_ _) | (with_reducible refine Kd.C_drewN ?_ _) | (with_reducible refine Kd.C_drew ?_))); (case side4 => exact HC0_1.out); (case side5 => repeat (first | exact (Kd.C_below HR0_2.out HB.out) | (with_reducible refine Kd.C_alloc ?_ _) | (with_reducible refine Kd.C_drewN ?_ _) | (with_reducible refine Kd.C_drew ?_))); (case side6 => exact HC0_2.out); (case side7 => repeat (first | exact (Kd.C_below HR0_3.out HB.out) | (with_reducible refine Kd.C_alloc ?_ _) | (with_reducible refine Kd.C_drewN ?_ _) | (with_reducible refine Kd.C_drew ?_))); (case side8 => exact HC0_3.out); (case side9 => repeat (first | exact (Kd.C_below HR0_4.out HB.out) | (with_reducible refine Kd.C_alloc ?_ _) | (with_reducible refine Kd.C_drewN ?_ _) | (with_reducible refine Kd.C_drew ?_))); (case side10 => exact HC0_4.out); rintro e w13 ⟨v217, v220, v223, v226, v229, rfl, ho0, ho1, ho2, ho3, ho4, hb⟩; refine ⟨_, rfl, ?_⟩; have n0_ := Ak (Kd.R_lower ho0 (below_size (by repeat (first | (with_reducible first | exact HB.out | apply below_alloc | apply pw_below_drewN | apply below_drew1 | refine below_set ?_ GE213.out | refine below_set ?_ GE214.out) | exact HB.out)))); have n1_ := Ak (Kd.R_lower ho1 (below_size (by repeat (first | (with_reducible first | exact HB.out | apply below_alloc | apply pw_below_drewN | apply below_drew1 | refine below_set ?_ GE213.out | refine below_set ?_ GE214.out) | exact HB.out)))); have n2_ := Ak (Kd.R_lower ho2 (below_size (by repeat (first | (with_reducible first | exact HB.out | apply below_alloc | apply pw_below_drewN | apply below_drew1 | refine below_set ?_ GE213.out | refine below_set ?_ GE214.out) | exact HB.out)))); have n3_ := Ak (Kd.R_lower ho3 (below_size (by repeat (first | (with_reducible first | exact HB.out | apply below_alloc | apply pw_below_drewN | apply below_drew1 | refine below_set ?_ GE213.out | refine below_set ?_ GE214.out) | exact HB.out)))); have n4_ := Ak (Kd.R_lower ho4 (below_size (by repeat (first | (with_reducible first | exact HB.out | apply below_alloc | apply pw_below_drewN | apply below_drew1 | refine below_set ?_ GE213.out | refine below_set ?_ GE214.out) | exact HB.out)))); have n5_ := Ak (blk_below (g := gb213) (o := .cells #[.slice A0_0 l0_0.length c0_0, .slice A0_1 l0_1.length c0_1, .slice A0_2 l0_2.length c0_2, .slice A0_3 l0_3.length c0_3, .slice A0_4 l0_4.length c0_4] 26 (0, 0)) (by (with_reducible repeat (first | refine blk_drewN ?_ _ | refine blk_drew ?_ | refine blk_alloc ?_ _)); exact BK213.out) hb); have n6_ := Ak (blk_below (g := gb214) (o := .cells #[.slice none 0 0, .slice none 0 0, .slice none 0 0, .slice none 0 0, .slice none 0 0] 26 (0, 0)) (by (with_reducible repeat (first | refine blk_drewN ?_ _ | refine blk_drew ?_ | refine blk_alloc ?_ _)); exact BK214.out) hb); have n7_ := Ak (below_step (by repeat (first | (with_reducible first | exact HB.out | apply below_alloc | apply pw_below_drewN | apply below_drew1 | refine below_set ?_ GE213.out | refine below_set ?_ GE214.out) | exact HB.out)) hb); clear BK213; clear BK214; clear HB; have HO218 := n0_; have HO221 := n1_; have HO224 := n2_; have HO227 := n3_; have HO230 := n4_; have BK213 := n5_; have BK214 := n6_; have HB := n7_; clear n0_ n1_ n2_ n3_ n4_ n5_ n6_ n7_; (try clear hb); (try clear hb2); (try clear hk); (try clear hi); (try clear ho0); (try clear ho1); (try clear ho2); (try clear ho3); (try clear ho4)) | ((with_reducible refine gate_dst (N := 3) rfl ?_); refine box_event ?hg (N := 3) ?hd (cs := #[.slice none 0 0, .slice none 0 0, .slice none 0 0, .slice none 0 0, .slice none 0 0]) (t := 26) ?hr ?_; (case hd => rfl); (case hg => rfl); (case hr => first | (go_simp; done) | (go_simp; rfl)); intro gb231 hg w14 hbox hb; have n0_ := Ak (Kd.R_below (by (with_reducible repeat (first | apply Kd.R_alloc | apply Kd.R_drewN | apply Kd.R_drew)); exact HO218.out) hb); have n1_ := Ak (Kd.R_below (by (with_reducible repeat (first | apply Kd.R_alloc | apply Kd.R_drewN | apply Kd.R_drew)); exact HO221.out) hb); have n2_ := Ak (Kd.R_below (by (with_reducible repeat (first | apply Kd.R_alloc | apply Kd.R_drewN | apply Kd.R_drew)); exact HO224.out) hb); have n3_ := Ak (Kd.R_below (by (with_reducible repeat (first | apply Kd.R_alloc | apply Kd.R_drewN | apply Kd.R_drew)); exact HO227.out) hb); have n4_ := Ak (Kd.R_below (by (with_reducible repeat (first | apply Kd.R_alloc | apply Kd.R_drewN | apply Kd.R_drew)); exact HO230.out) hb); have n5_ := Ak (blk_below (g := gb213) (o := .cells #[.slice A0_0 l0_0.length c0_0, .slice A0_1 l0_1.length c0_1, .slice A0_2 l0_2.length c0_2, .slice A0_3 l0_3.length c0_3, .slice A0_4 l0_4.length c0_4] 26 (0, 0)) (by (with_reducible repeat (first | refine blk_drewN ?_ _ | refine blk_drew ?_ | refine blk_alloc ?_ _)); exact BK213.out) hb); have n6_ := Ak (blk_below (g := gb214) (o := .cells #[.slice none 0 0, .slice none 0 0, .slice none 0 0, .slice none 0 0, .slice none 0 0] 26 (0, 0)) (by (with_reducible repeat (first | refine blk_drewN ?_ _ | refine blk_drew ?_ | refine blk_alloc ?_ _)); exact BK214.out) hb); have n7_ := Ak (below_step (by repeat (first | (with_reducible first | exact HB.out | apply below_alloc | apply pw_below_drewN | apply below_drew1 | refine below_set ?_ GE213.out | refine below_set ?_ GE214.out) | exact HB.out)) hb); have n8_ := Ak (hbox); have n9_ := Ak ((by rw [hg]; exact (below_size (by repeat (first | (with_reducible first | exact HB.out | apply below_alloc | apply pw_below_drewN | apply below_drew1 | refine below_set ?_ GE213.out | refine below_set ?_ GE214.out) | exact HB.out))) : w.heap.size ≤ gb231)); have n10_ := Ak ((by rw [hg]; exact (below_size (by repeat (first | (with_reducible first | exact HB.out | apply below_alloc | apply pw_below_drewN | apply below_drew1 | refine below_set ?_ GE213.out | refine below_set ?_ GE214.out) | exact HB.out))) : w.heap.size ≤ gb231)); have n11_ := Ak ((by rw [hg]; exact Nat.ne_of_lt (blk_lt (g := gb213) (o := .cells #[.slice A0_0 l0_0.length c0_0, .slice A0_1 l0_1.length c0_1, .slice A0_2 l0_2.length c0_2, .slice A0_3 l0_3.length c0_3, .slice A0_4 l0_4.length c0_4] 26 (0, 0)) (by (with_reducible repeat (first | refine blk_drewN ?_ _ | refine blk_drew ?_ | refine blk_alloc ?_ _)); exact BK213.out)) : gb213 ≠ gb231)); have n12_ := Ak ((by rw [hg]; exact Nat.ne_of_gt (blk_lt (g := gb213) (o := .cells #[.slice A0_0 l0_0.length c0_0, .slice A0_1 l0_1.length c0_1, .slice A0_2 l0_2.length c0_2, .slice A0_3 l0_3.length c0_3, .slice A0_4 l0_4.length c0_4] 26 (0, 0)) (by (with_reducible repeat (first | refine blk_drewN ?_ _ | refine blk_drew ?_ | refine blk_alloc ?_ _)); exact BK213.out)) : gb231 ≠ gb213)); have n13_ := Ak ((by rw [hg]; exact Nat.ne_of_lt (blk_lt (g := gb214) (o := .cells #[.slice none 0 0, .slice none 0 0, .slice none 0 0, .slice none 0 0, .slice none 0 0] 26 (0, 0)) (by (with_reducible repeat (first | refine blk_drewN ?_ _ | refine blk_drew ?_ | refine blk_alloc ?_ _)); exact BK214.out)) : gb214 ≠ gb231)); have n14_ := Ak ((by rw [hg]; exact Nat.ne_of_gt (blk_lt (g := gb214) (o := .cells #[.slice none 0 0, .slice none 0 0, .slice none 0 0, .slice none 0 0, .slice none 0 0] 26 (0, 0)) (by (with_reducible repeat (first | refine blk_drewN ?_ _ | refine blk_drew ?_ | refine blk_alloc ?_ _)); exact BK214.out)) : gb231 ≠ gb214)); clear HO218; clear HO221; clear HO224; clear HO227; clear HO230; clear BK213; clear BK214; clear HB; have HO218 := n0_; have HO221 := n1_; have HO224 := n2_; have HO227 := n3_; have HO230 := n4_; have BK213 := n5_; have BK214 := n6_; have HB := n7_; have BK231 := n8_; have GW231 := n9_; have GE231 := n10_; have NB213_231 := n11_; have NB231_213 := n12_; have NB214_231 := n13_; have NB231_214 := n14_; clear n0_ n1_ n2_ n3_ n4_ n5_ n6_ n7_ n8_ n9_ n10_ n11_ n12_ n13_ n14_; clear hb hbox hg; obtain ⟨Ao15, co15, eo15⟩ := Kd.R_slice HO218.out; subst eo15; have hnb16 := NB231_213.out; have hnc16 := NB213_231.out; have hnb17 := NB231_214.out; have hnc17 := NB214_231.out; have hcz18_0 : w14.cell? ⟨gb231, 0, none⟩ = some (.slice none 0 0) := (blk_cell BK231.out 0).trans rfl; have hcz18_1 : w14.cell? ⟨gb231, 1, none⟩ = some (.slice none 0 0) := (blk_cell BK231.out 1).trans rfl; have hcz18_2 : w14.cell? ⟨gb231, 2, none⟩ = some (.slice none 0 0) := (blk_cell BK231.out 2).trans rfl; have hcz18_3 : w14.cell? ⟨gb231, 3, none⟩ = some (.slice none 0 0) := (blk_cell BK231.out 3).trans rfl; have hcz18_4 : w14.cell? ⟨gb231, 4, none⟩ = some (.slice none 0 0) := (blk_cell BK231.out 4).trans rfl; have hfz18_0 := blk_frozen BK231.out 0; have hfz18_1 := blk_frozen BK231.out 1; have hfz18_2 := blk_frozen BK231.out 2; have hfz18_3 := blk_frozen BK231.out 3; have hfz18_4 := blk_frozen BK231.out 4; obtain ⟨Ao19, co19, eo19⟩ := Kd.R_slice HO221.out; subst eo19; obtain ⟨Ao20, co20, eo20⟩ := Kd.R_slice HO224.out; subst eo20; obtain ⟨Ao21, co21, eo21⟩ := Kd.R_slice HO227.out; subst eo21; obtain ⟨Ao22, co22, eo22⟩ := Kd.R_slice HO230.out; subst eo22) | ((with_reducible refine gate_dst (N := 10) rfl ?_); refine Kd.R_lit Kd.string _ 9 ?hg (N := 10) ?hd (xs := ([] : List ByteArray)) (inner := []) (ok := fun _ => True) (okp := fun _ => True) ?hr ?hp (fun _ hk => hk) trivial (Below.refl _ _) (Nat.le_refl _) (by simp) ?_; (case hd => rfl); (case hg => rfl); (case hr => first | (go_simp; done) | (go_simp; rfl)); (case hp => exact (Reps.none _ _)); intro v233 w23 ho24 hb hg_ hnew_; clear hg_ hnew_; (first | rw [← Ny232.out] at ho24 | (simp only [Int.reduceToNat] at ho24; rw [← Ny232.out] at ho24)); have n0_ := Ak (Kd.R_elder' (by (with_reducible repeat (first | apply Kd.R_alloc | apply Kd.R_drewN | apply Kd.R_drew)); exact (Kd.R_mono (Kd.R_far (p := ⟨gb231, 4, none⟩) (Kd.R_far (p := ⟨gb231, 3, none⟩) (Kd.R_far (p := ⟨gb231, 2, none⟩) (Kd.R_far (p := ⟨gb231, 1, none⟩) (Kd.R_far (p := ⟨gb231, 0, none⟩) (Kd.R_types HO218.out BK231.out (by decide)) (fun _ hk => hk.2) (.slice Ao15 t216.length co15)) (fun _ hk => hk.2) (.slice Ao19 t219.length co19)) (fun _ hk => hk.2) (.slice Ao20 t222.length co20)) (fun _ hk => hk.2) (.slice Ao21 t225.length co21)) (fun _ hk => hk.2) (.slice Ao22 t228.length co22)) (fun _ h_ => h_.1))) (Kd.R_base ho24) hb); have n1_ := Ak (Kd.R_elder' (by (with_reducible repeat (first | apply Kd.R_alloc | apply Kd.R_drewN | apply Kd.R_drew)); exact (Kd.R_mono (Kd.R_far (p := ⟨gb231, 4, none⟩) (Kd.R_far (p := ⟨gb231, 3, none⟩) (Kd.R_far (p := ⟨gb231, 2, none⟩) (Kd.R_far (p := ⟨gb231, 1, none⟩) (Kd.R_far (p := ⟨gb231, 0, none⟩) (Kd.R_types HO221.out BK231.out (by decide)) (fun _ hk => hk.2) (.slice Ao15 t216.length co15)) (fun _ hk => hk.2) (.slice Ao19 t219.length co19)) (fun _ hk => hk.2) (.slice Ao20 t222.length co20)) (fun _ hk => hk.2) (.slice Ao21 t225.length co21)) (fun _ hk => hk.2) (.slice Ao22 t228.length co22)) (fun _ h_ => h_.1))) (Kd.R_base ho24) hb); have n2_ := Ak (Kd.R_below (by (with_reducible repeat (first | apply Kd.R_alloc | apply Kd.R_drewN | apply Kd.R_drew)); exact (Kd.R_mono (Kd.R_far (p := ⟨gb231, 4, none⟩) (Kd.R_far (p := ⟨gb231, 3, none⟩) (Kd.R_far (p := ⟨gb231, 2, none⟩) (Kd.R_far (p := ⟨gb231, 1, none⟩) (Kd.R_far (p := ⟨gb231, 0, none⟩) (Kd.R_types HO224.out BK231.out (by decide)) (fun _ hk => hk.2) (.slice Ao15 t216.length co15)) (fun _ hk => hk.2) (.slice Ao19 t219.length co19)) (fun _ hk => hk.2) (.slice Ao20 t222.length co20)) (fun _ hk => hk.2) (.slice Ao21 t225.length co21)) (fun _ hk => hk.2) (.slice Ao22 t228.length co22)) (fun _ h_ => h_.1))) hb); have n3_ := Ak (Kd.R_below (by (with_reducible repeat (first | apply Kd.R_alloc | apply Kd.R_drewN | apply Kd.R_drew)); exact (Kd.R_mono (Kd.R_far (p := ⟨gb231, 4, none⟩) (Kd.R_far (p := ⟨gb231, 3, none⟩) (Kd.R_far (p := ⟨gb231, 2, none⟩) (Kd.R_far (p := ⟨gb231, 1, none⟩) (Kd.R_far (p := ⟨gb231, 0, none⟩) (Kd.R_types HO227.out BK231.out (by decide)) (fun _ hk => hk.2) (.slice Ao15 t216.length co15)) (fun _ hk => hk.2) (.slice Ao19 t219.length co19)) (fun _ hk => hk.2) (.slice Ao20 t222.length co20)) (fun _ hk => hk.2) (.slice Ao21 t225.length co21)) (fun _ hk => hk.2) (.slice Ao22 t228.length co22)) (fun _ h_ => h_.1))) hb); have n4_ := Ak (Kd.R_below (by (with_reducible repeat (first | apply Kd.R_alloc | apply Kd.R_drewN | apply Kd.R_drew)); exact (Kd.R_mono (Kd.R_far (p := ⟨gb231, 4, none⟩) (Kd.R_far (p := ⟨gb231, 3, none⟩) (Kd.R_far (p := ⟨gb231, 2, none⟩) (Kd.R_far (p := ⟨gb231, 1, none⟩) (Kd.R_far (p := ⟨gb231, 0, none⟩) (Kd.R_types HO230.out BK231.out (by decide)) (fun _ hk => hk.2) (.slice Ao15 t216.length co15)) (fun _ hk => hk.2) (.slice Ao19 t219.length co19)) (fun _ hk => hk.2) (.slice Ao20 t222.length co20)) (fun _ hk => hk.2) (.slice Ao21 t225.length co21)) (fun _ hk => hk.2) (.slice Ao22 t228.length co22)) (fun _ h_ => h_.1))) hb); have n5_ := Ak (Kd.R_lower (Kd.R_new' (Kd.R_new' ho24 (Kd.R_lt (by (with_reducible repeat (first | apply Kd.R_alloc | apply Kd.R_drewN | apply Kd.R_drew)); exact (Kd.R_mono (Kd.R_far (p := ⟨gb231, 4, none⟩) (Kd.R_far (p := ⟨gb231, 3, none⟩) (Kd.R_far (p := ⟨gb231, 2, none⟩) (Kd.R_far (p := ⟨gb231, 1, none⟩) (Kd.R_far (p := ⟨gb231, 0, none⟩) (Kd.R_types HO218.out BK231.out (by decide)) (fun _ hk => hk.2) (.slice Ao15 t216.length co15)) (fun _ hk => hk.2) (.slice Ao19 t219.length co19)) (fun _ hk => hk.2) (.slice Ao20 t222.length co20)) (fun _ hk => hk.2) (.slice Ao21 t225.length co21)) (fun _ hk => hk.2) (.slice Ao22 t228.length co22)) (fun _ h_ => h_.1))))) (Kd.R_lt (by (with_reducible repeat (first | apply Kd.R_alloc | apply Kd.R_drewN | apply Kd.R_drew)); exact (Kd.R_mono (Kd.R_far (p := ⟨gb231, 4, none⟩) (Kd.R_far (p := ⟨gb231, 3, none⟩) (Kd.R_far (p := ⟨gb231, 2, none⟩) (Kd.R_far (p := ⟨gb231, 1, none⟩) (Kd.R_far (p := ⟨gb231, 0, none⟩) (Kd.R_types HO221.out BK231.out (by decide)) (fun _ hk => hk.2) (.slice Ao15 t216.length co15)) (fun _ hk => hk.2) (.slice Ao19 t219.length co19)) (fun _ hk => hk.2) (.slice Ao20 t222.length co20)) (fun _ hk => hk.2) (.slice Ao21 t225.length co21)) (fun _ hk => hk.2) (.slice Ao22 t228.length co22)) (fun _ h_ => h_.1))))) (below_size (by repeat (first | (with_reducible first | exact HB.out | apply below_alloc | apply pw_below_drewN | apply below_drew1 | refine below_set ?_ GE213.out | refine below_set ?_ GE214.out | refine below_set ?_ GE231.out) | exact HB.out)))); have n6_ := Ak (blk_below (g := gb213) (o := .cells #[.slice A0_0 l0_0.length c0_0, .slice A0_1 l0_1.length c0_1, .slice A0_2 l0_2.length c0_2, .slice A0_3 l0_3.length c0_3, .slice A0_4 l0_4.length c0_4] 26 (0, 0)) (by (with_reducible repeat (first | refine blk_drewN ?_ _ | refine blk_drew ?_ | refine blk_alloc ?_ _)); refine blk_far ?_ NB213_231.out _; (with_reducible repeat (first | refine blk_drewN ?_ _ | refine blk_drew ?_ | refine blk_alloc ?_ _)); refine blk_far ?_ NB213_231.out _; (with_reducible repeat (first | refine blk_drewN ?_ _ | refine blk_drew ?_ | refine blk_alloc ?_ _)); refine blk_far ?_ NB213_231.out _; (with_reducible repeat (first | refine blk_drewN ?_ _ | refine blk_drew ?_ | refine blk_alloc ?_ _)); refine blk_far ?_ NB213_231.out _; (with_reducible repeat (first | refine blk_drewN ?_ _ | refine blk_drew ?_ | refine blk_alloc ?_ _)); refine blk_far ?_ NB213_231.out _; (with_reducible repeat (first | refine blk_drewN ?_ _ | refine blk_drew ?_ | refine blk_alloc ?_ _)); exact BK213.out) hb); have n7_ := Ak (blk_below (g := gb214) (o := .cells #[.slice none 0 0, .slice none 0 0, .slice none 0 0, .slice none 0 0, .slice none 0 0] 26 (0, 0)) (by (with_reducible repeat (first | refine blk_drewN ?_ _ | refine blk_drew ?_ | refine blk_alloc ?_ _)); refine blk_far ?_ NB214_231.out _; (with_reducible repeat (first | refine blk_drewN ?_ _ | refine blk_drew ?_ | refine blk_alloc ?_ _)); refine blk_far ?_ NB214_231.out _; (with_reducible repeat (first | refine blk_drewN ?_ _ | refine blk_drew ?_ | refine blk_alloc ?_ _)); refine blk_far ?_ NB214_231.out _; (with_reducible repeat (first | refine blk_drewN ?_ _ | refine blk_drew ?_ | refine blk_alloc ?_ _)); refine blk_far ?_ NB214_231.out _; (with_reducible repeat (first | refine blk_drewN ?_ _ | refine blk_drew ?_ | refine blk_alloc ?_ _)); refine blk_far ?_ NB214_231.out _; (with_reducible repeat (first | refine blk_drewN ?_ _ | refine blk_drew ?_ | refine blk_alloc ?_ _)); exact BK214.out) hb); have n8_ := Ak (blk_below (g := gb231) (o := .cells #[.slice Ao15 t216.length co15, .slice Ao19 t219.length co19, .slice Ao20 t222.length co20, .slice Ao21 t225.length co21, .slice Ao22 t228.length co22] 26 (0, 0)) (by (with_reducible repeat (first | refine blk_drewN ?_ _ | refine blk_drew ?_ | refine blk_alloc ?_ _)); refine blk_put (cs := #[.slice Ao15 t216.length co15, .slice Ao19 t219.length co19, .slice Ao20 t222.length co20, .slice Ao21 t225.length co21, .slice none 0 0]) ?_ 4 _ rfl; (with_reducible repeat (first | refine blk_drewN ?_ _ | refine blk_drew ?_ | refine blk_alloc ?_ _)); refine blk_put (cs := #[.slice Ao15 t216.length co15, .slice Ao19 t219.length co19, .slice Ao20 t222.length co20, .slice none 0 0, .slice none 0 0]) ?_ 3 _ rfl; (with_reducible repeat (first | refine blk_drewN ?_ _ | refine blk_drew ?_ | refine blk_alloc ?_ _)); refine blk_put (cs := #[.slice Ao15 t216.length co15, .slice Ao19 t219.length co19, .slice none 0 0, .slice none 0 0, .slice none 0 0]) ?_ 2 _ rfl; (with_reducible repeat (first | refine blk_drewN ?_ _ | refine blk_drew ?_ | refine blk_alloc ?_ _)); refine blk_put (cs := #[.slice Ao15 t216.length co15, .slice none 0 0, .slice none 0 0, .slice none 0 0, .slice none 0 0]) ?_ 1 _ rfl; (with_reducible repeat (first | refine blk_drewN ?_ _ | refine blk_drew ?_ | refine blk_alloc ?_ _)); refine blk_put (cs := #[.slice none 0 0, .slice none 0 0, .slice none 0 0, .slice none 0 0, .slice none 0 0]) ?_ 0 _ rfl; (with_reducible repeat (first | refine blk_drewN ?_ _ | refine blk_drew ?_ | refine blk_alloc ?_ _)); exact BK231.out) hb); have n9_ := Ak (below_step (by repeat (first | (with_reducible first | exact HB.out | apply below_alloc | apply pw_below_drewN | apply below_drew1 | refine below_set ?_ GE213.out | refine below_set ?_ GE214.out | refine below_set ?_ GE231.out) | exact HB.out)) hb); clear HO218; clear HO221; clear HO224; clear HO227; clear HO230; clear BK213; clear BK214; clear BK231; clear HB; have HO218 := n0_; have HO221 := n1_; have HO224 := n2_; have HO227 := n3_; have HO230 := n4_; have HO234 := n5_; have BK213 := n6_; have BK214 := n7_; have BK231 := n8_; have HB := n9_; clear n0_ n1_ n2_ n3_ n4_ n5_ n6_ n7_ n8_ n9_; clear hb ho24; have hcz25_0 : w23.cell? ⟨gb213, 0, none⟩ = some (.slice A0_0 l0_0.length c0_0) := (blk_cell BK213.out 0).trans rfl; have hcz25_1 : w23.cell? ⟨gb213, 1, none⟩ = some (.slice A0_1 l0_1.length c0_1) := (blk_cell BK213.out 1).trans rfl; have hcz25_2 : w23.cell? ⟨gb213, 2, none⟩ = some (.slice A0_2 l0_2.length c0_2) := (blk_cell BK213.out 2).trans rfl; have hcz25_3 : w23.cell? ⟨gb213, 3, none⟩ = some (.slice A0_3 l0_3.length c0_3) := (blk_cell BK213.out 3).trans rfl; have hcz25_4 : w23.cell? ⟨gb213, 4, none⟩ = some (.slice A0_4 l0_4.length c0_4) := (blk_cell BK213.out 4).trans rfl; have hfz25_0 := blk_frozen BK213.out 0; have hfz25_1 := blk_frozen BK213.out 1; have hfz25_2 := blk_frozen BK213.out 2; have hfz25_3 := blk_frozen BK213.out 3; have hfz25_4 := blk_frozen BK213.out 4) | ((with_reducible refine gate_builtin (b := .append) (xs := #[.tmp 10, .tmp 12]) rfl ?_); at_builtin; refine Kd.R_append_rows Kd.string (w0 := w) w.heap.size rfl (.tmp 10) (.tmp 12) 23 9 (.string ⟨#[]⟩) 16 rfl Try.underlying23 info9 rfl (by decide) (by omega) v233 y232 l0_1 _ _ _ (fun k_ => some k_ ≠ (.slice Ao15 t216.length co15 : Value).ownBlock ∧ some k_ ≠ (.slice Ao19 t219.length co19 : Value).ownBlock) (fun _ => False) rfl rfl ?aO ?aR (fun _ _ h => h) (fun _ h => h.elim) ?aF ?aB ?aS ?aL ?_; (case aR => repeat (first | exact (Kd.C_below HR0_1.out HB.out) | (with_reducible refine Kd.C_alloc ?_ _) | (with_reducible refine Kd.C_drewN ?_ _) | (with_reducible refine Kd.C_drew ?_))); (case aB => exact (by repeat (first | (with_reducible first | exact HB.out | apply below_alloc | apply pw_below_drewN | apply below_drew1 | refine below_set ?_ GE213.out | refine below_set ?_ GE214.out | refine below_set ?_ GE231.out) | exact HB.out))); (case aF => exact (fun k_ hk => ⟨Kd.fresh' (Kd.R_lt (by (with_reducible repeat (first | apply Kd.R_alloc | apply Kd.R_drewN | apply Kd.R_drew)); exact HO218.out)) k_ hk, Kd.fresh' (Kd.R_lt (by (with_reducible repeat (first | apply Kd.R_alloc | apply Kd.R_drewN | apply Kd.R_drew)); exact HO221.out)) k_ hk⟩)); (case aO => exact (by (with_reducible repeat (first | apply Kd.R_alloc | apply Kd.R_drewN | apply Kd.R_drew)); exact Kd.R_mono HO234.out (fun _ hk => ⟨hk.1.2, hk.2⟩))); (case aS => exact (below_size (by repeat (first | (with_reducible first | exact HB.out | apply below_alloc | apply pw_below_drewN | apply below_drew1 | refine below_set ?_ GE213.out | refine below_set ?_ GE214.out | refine below_set ?_ GE231.out) | exact HB.out)))); (case aL => have := LMc5.out; omega); intro v236 w26 ho hb hg hat; rw [← Ny235.out] at ho; have n0_ := Ak (blk_grown (g := gb213) (o := .cells #[.slice A0_0 l0_0.length c0_0, .slice A0_1 l0_1.length c0_1, .slice A0_2 l0_2.length c0_2, .slice A0_3 l0_3.length c0_3, .slice A0_4 l0_4.length c0_4] 26 (0, 0)) (by (with_reducible repeat (first | refine blk_drewN ?_ _ | refine blk_drew ?_ | refine blk_alloc ?_ _)); exact BK213.out) hg (Kd.R_ne HO234.out BK213.out (by decide))); have n1_ := Ak (blk_grown (g := gb214) (o := .cells #[.slice none 0 0, .slice none 0 0, .slice none 0 0, .slice none 0 0, .slice none 0 0] 26 (0, 0)) (by (with_reducible repeat (first | refine blk_drewN ?_ _ | refine blk_drew ?_ | refine blk_alloc ?_ _)); exact BK214.out) hg (Kd.R_ne HO234.out BK214.out (by decide))); have n2_ := Ak (Kd.R_after (ok := (fun k_ => some k_ ≠ (.slice Ao19 t219.length co19 : Value).ownBlock)) (by (with_reducible repeat (first | apply Kd.R_alloc | apply Kd.R_drewN | apply Kd.R_drew)); exact HO218.out) hg hat); have n3_ := Ak (Kd.R_after (ok := (fun k_ => some k_ ≠ (.slice Ao15 t216.length co15 : Value).ownBlock)) (by (with_reducible repeat (first | apply Kd.R_alloc | apply Kd.R_drewN | apply Kd.R_drew)); exact HO221.out) hg hat); have n4_ := Ak (Kd.R_over' (by (with_reducible repeat (first | apply Kd.R_alloc | apply Kd.R_drewN | apply Kd.R_drew)); exact HO224.out) (Kd.R_typed (by (with_reducible repeat (first | apply Kd.R_alloc | apply Kd.R_drewN | apply Kd.R_drew)); exact HO234.out)) (by decide) hg); have n5_ := Ak (Kd.R_over' (by (with_reducible repeat (first | apply Kd.R_alloc | apply Kd.R_drewN | apply Kd.R_drew)); exact HO227.out) (Kd.R_typed (by (with_reducible repeat (first | apply Kd.R_alloc | apply Kd.R_drewN | apply Kd.R_drew)); exact HO234.out)) (by decide) hg); have n6_ := Ak (Kd.R_over' (by (with_reducible repeat (first | apply Kd.R_alloc | apply Kd.R_drewN | apply Kd.R_drew)); exact HO230.out) (Kd.R_typed (by (with_reducible repeat (first | apply Kd.R_alloc | apply Kd.R_drewN | apply Kd.R_drew)); exact HO234.out)) (by decide) hg); have n7_ := Ak (blk_grown (g := gb231) (o := .cells #[.slice Ao15 t216.length co15, .slice Ao19 t219.length co19, .slice Ao20 t222.length co20, .slice Ao21 t225.length co21, .slice Ao22 t228.length co22] 26 (0, 0)) (by (with_reducible repeat (first | refine blk_drewN ?_ _ | refine blk_drew ?_ | refine blk_alloc ?_ _)); exact BK231.out) hg (Kd.R_ne HO234.out BK231.out (by decide))); have n8_ := Ak (hb); have n9_ := Ak (ho); clear BK213; clear BK214; clear HO218; clear HO221; clear HO224; clear HO227; clear HO230; clear BK231; clear HB; clear HO234; have BK213 := n0_; have BK214 := n1_; have HO218 := n2_; have HO221 := n3_; have HO224 := n4_; have HO227 := n5_; have HO230 := n6_; have BK231 := n7_; have HB := n8_; have HO237 := n9_; clear n0_ n1_ n2_ n3_ n4_ n5_ n6_ n7_ n8_ n9_; clear ho hb hg hat; obtain ⟨Ao27, co27, eo27⟩ := Kd.R_slice HO237.out; subst eo27; have hcz28_0 : w26.cell? ⟨gb231, 0, none⟩ = some (.slice Ao15 t216.length co15) := (blk_cell BK231.out 0).trans rfl; have hcz28_1 : w26.cell? ⟨gb231, 1, none⟩ = some (.slice Ao19 t219.length co19) := (blk_cell BK231.out 1).trans rfl; have hcz28_2 : w26.cell? ⟨gb231, 2, none⟩ = some (.slice Ao20 t222.length co20) := (blk_cell BK231.out 2).trans rfl; have hcz28_3 : w26.cell? ⟨gb231, 3, none⟩ = some (.slice Ao21 t225.length co21) := (blk_cell BK231.out 3).trans rfl; have hcz28_4 : w26.cell? ⟨gb231, 4, none⟩ = some (.slice Ao22 t228.length co22) := (blk_cell BK231.out 4).trans rfl; have hfz28_0 := blk_frozen BK231.out 0; have hfz28_1 := blk_frozen BK231.out 1; have hfz28_2 := blk_frozen BK231.out 2; have hfz28_3 := blk_frozen BK231.out 3; have hfz28_4 := blk_frozen BK231.out 4) | ((with_reducible refine gate_dst (N := 15) rfl ?_); refine Kd.R_lit (Kd.int .i64) _ 3 ?hg (N := 15) ?hd (xs := ([] : List Int)) (inner := []) (ok := fun _ => True) (okp := fun _ => True) ?hr ?hp (fun _ hk => hk) trivial (Below.refl _ _) (Nat.le_refl _) (by simp) ?_; (case hd => rfl); (case hg => rfl); (case hr => first | (go_simp; done) | (go_simp; rfl)); (case hp => exact (Reps.none _ _)); intro v239 w29 ho30 hb hg_ hnew_; clear hg_ hnew_; (first | rw [← Ny238.out] at ho30 | (simp only [Int.reduceToNat] at ho30; rw [← Ny238.out] at ho30)); have n0_ := Ak (Kd.R_below (by (with_reducible repeat (first | apply Kd.R_alloc | apply Kd.R_drewN | apply Kd.R_drew)); exact (Kd.R_mono (Kd.R_far (p := ⟨gb231, 0, none⟩) (Kd.R_types HO218.out BK231.out (by decide)) (fun _ hk => hk.2) (.slice Ao27 y235.length co27)) (fun _ h_ => h_.1))) hb); have n1_ := Ak (Kd.R_below (by (with_reducible repeat (first | apply Kd.R_alloc | apply Kd.R_drewN | apply Kd.R_drew)); exact (Kd.R_mono (Kd.R_far (p := ⟨gb231, 0, none⟩) (Kd.R_types HO221.out BK231.out (by decide)) (fun _ hk => hk.2) (.slice Ao27 y235.length co27)) (fun _ h_ => h_.1))) hb); have n2_ := Ak (Kd.R_elder' (by (with_reducible repeat (first | apply Kd.R_alloc | apply Kd.R_drewN | apply Kd.R_drew)); exact (Kd.R_mono (Kd.R_far (p := ⟨gb231, 0, none⟩) (Kd.R_types HO224.out BK231.out (by decide)) (fun _ hk => hk.2) (.slice Ao27 y235.length co27)) (fun _ h_ => h_.1))) (Kd.R_base ho30) hb); have n3_ := Ak (Kd.R_elder' (by (with_reducible repeat (first | apply Kd.R_alloc | apply Kd.R_drewN | apply Kd.R_drew)); exact (Kd.R_mono (Kd.R_far (p := ⟨gb231, 0, none⟩) (Kd.R_types HO227.out BK231.out (by decide)) (fun _ hk => hk.2) (.slice Ao27 y235.length co27)) (fun _ h_ => h_.1))) (Kd.R_base ho30) hb); have n4_ := Ak (Kd.R_elder' (by (with_reducible repeat (first | apply Kd.R_alloc | apply Kd.R_drewN | apply Kd.R_drew)); exact (Kd.R_mono (Kd.R_far (p := ⟨gb231, 0, none⟩) (Kd.R_types HO230.out BK231.out (by decide)) (fun _ hk => hk.2) (.slice Ao27 y235.length co27)) (fun _ h_ => h_.1))) (Kd.R_base ho30) hb); have n5_ := Ak (Kd.R_below (by (with_reducible repeat (first | apply Kd.R_alloc | apply Kd.R_drewN | apply Kd.R_drew)); exact (Kd.R_mono (Kd.R_far (p := ⟨gb231, 0, none⟩) (Kd.R_types HO237.out BK231.out (by decide)) (fun _ hk => hk.2) (.slice Ao27 y235.length co27)) (fun _ h_ => h_.1))) hb); have n6_ := Ak (Kd.R_lower (Kd.R_new' (Kd.R_new' (Kd.R_new' ho30 (Kd.R_lt (by (with_reducible repeat (first | apply Kd.R_alloc | apply Kd.R_drewN | apply Kd.R_drew)); exact (Kd.R_mono (Kd.R_far (p := ⟨gb231, 0, none⟩) (Kd.R_types HO224.out BK231.out (by decide)) (fun _ hk => hk.2) (.slice Ao27 y235.length co27)) (fun _ h_ => h_.1))))) (Kd.R_lt (by (with_reducible repeat (first | apply Kd.R_alloc | apply Kd.R_drewN | apply Kd.R_drew)); exact (Kd.R_mono (Kd.R_far (p := ⟨gb231, 0, none⟩) (Kd.R_types HO227.out BK231.out (by decide)) (fun _ hk => hk.2) (.slice Ao27 y235.length co27)) (fun _ h_ => h_.1))))) (Kd.R_lt (by (with_reducible repeat (first | apply Kd.R_alloc | apply Kd.R_drewN | apply Kd.R_drew)); exact (Kd.R_mono (Kd.R_far (p := ⟨gb231, 0, none⟩) (Kd.R_types HO230.out BK231.out (by decide)) (fun _ hk => hk.2) (.slice Ao27 y235.length co27)) (fun _ h_ => h_.1))))) (below_size (by repeat (first | (with_reducible first | exact HB.out | apply below_alloc | apply pw_below_drewN | apply below_drew1 | refine below_set ?_ GE213.out | refine below_set ?_ GE214.out | refine below_set ?_ GE231.out) | exact HB.out)))); have n7_ := Ak (blk_below (g := gb213) (o := .cells #[.slice A0_0 l0_0.length c0_0, .slice A0_1 l0_1.length c0_1, .slice A0_2 l0_2.length c0_2, .slice A0_3 l0_3.length c0_3, .slice A0_4 l0_4.length c0_4] 26 (0, 0)) (by (with_reducible repeat (first | refine blk_drewN ?_ _ | refine blk_drew ?_ | refine blk_alloc ?_ _)); refine blk_far ?_ NB213_231.out _; (with_reducible repeat (first | refine blk_drewN ?_ _ | refine blk_drew ?_ | refine blk_alloc ?_ _)); exact BK213.out) hb); have n8_ := Ak (blk_below (g := gb214) (o := .cells #[.slice none 0 0, .slice none 0 0, .slice none 0 0, .slice none 0 0, .slice none 0 0] 26 (0, 0)) (by (with_reducible repeat (first | refine blk_drewN ?_ _ | refine blk_drew ?_ | refine blk_alloc ?_ _)); refine blk_far ?_ NB214_231.out _; (with_reducible repeat (first | refine blk_drewN ?_ _ | refine blk_drew ?_ | refine blk_alloc ?_ _)); exact BK214.out) hb); have n9_ := Ak (blk_below (g := gb231) (o := .cells #[.slice Ao27 y235.length co27, .slice Ao19 t219.length co19, .slice Ao20 t222.length co20, .slice Ao21 t225.length co21, .slice Ao22 t228.length co22] 26 (0, 0)) (by (with_reducible repeat (first | refine blk_drewN ?_ _ | refine blk_drew ?_ | refine blk_alloc ?_ _)); refine blk_put (cs := #[.slice Ao15 t216.length co15, .slice Ao19 t219.length co19, .slice Ao20 t222.length co20, .slice Ao21 t225.length co21, .slice Ao22 t228.length co22]) ?_ 0 _ rfl; (with_reducible repeat (first | refine blk_drewN ?_ _ | refine blk_drew ?_ | refine blk_alloc ?_ _)); exact BK231.out) hb); have n10_ := Ak (below_step (by repeat (first | (with_reducible first | exact HB.out | apply below_alloc | apply pw_below_drewN | apply below_drew1 | refine below_set ?_ GE213.out | refine below_set ?_ GE214.out | refine below_set ?_ GE231.out) | exact HB.out)) hb); clear HO218; clear HO221; clear HO224; clear HO227; clear HO230; clear HO237; clear BK213; clear BK214; clear BK231; clear HB; have HO218 := n0_; have HO221 := n1_; have HO224 := n2_; have HO227 := n3_; have HO230 := n4_; have HO237 := n5_; have HO240 := n6_; have BK213 := n7_; have BK214 := n8_; have BK231 := n9_; have HB := n10_; clear n0_ n1_ n2_ n3_ n4_ n5_ n6_ n7_ n8_ n9_ n10_; clear hb ho30; have hcz31_0 : w29.cell? ⟨gb213, 0, none⟩ = some (.slice A0_0 l0_0.length c0_0) := (blk_cell BK213.out 0).trans rfl; have hcz31_1 : w29.cell? ⟨gb213, 1, none⟩ = some (.slice A0_1 l0_1.length c0_1) := (blk_cell BK213.out 1).trans rfl; have hcz31_2 : w29.cell? ⟨gb213, 2, none⟩ = some (.slice A0_2 l0_2.length c0_2) := (blk_cell BK213.out 2).trans rfl; have hcz31_3 : w29.cell? ⟨gb213, 3, none⟩ = some (.slice A0_3 l0_3.length c0_3) := (blk_cell BK213.out 3).trans rfl; have hcz31_4 : w29.cell? ⟨gb213, 4, none⟩ = some (.slice A0_4 l0_4.length c0_4) := (blk_cell BK213.out 4).trans rfl; have hfz31_0 := blk_frozen BK213.out 0; have hfz31_1 := blk_frozen BK213.out 1; have hfz31_2 := blk_frozen BK213.out 2; have hfz31_3 := blk_frozen BK213.out 3; have hfz31_4 := blk_frozen BK213.out 4) | ((with_reducible refine gate_builtin (b := .append) (xs := #[.tmp 15, .tmp 17]) rfl ?_); at_builtin; refine Kd.R_append_rows (Kd.int .i64) (w0 := w) w.heap.size rfl (.tmp 15) (.tmp 17) 24 3 (.int .i64 0) 8 rfl Try.underlying24 info3 rfl (by decide) (by omega) v239 y238 l0_3 _ _ _ (fun k_ => some k_ ≠ (.slice Ao20 t222.length co20 : Value).ownBlock ∧ some k_ ≠ (.slice Ao21 t225.length co21 : Value).ownBlock ∧ some k_ ≠ (.slice Ao22 t228.length co22 : Value).ownBlock) (fun _ => False) rfl rfl ?aO ?aR (fun _ _ h => h) (fun _ h => h.elim) ?aF ?aB ?aS ?aL ?_; (case aR => repeat (first | exact (Kd.C_below HR0_3.out HB.out) | (with_reducible refine Kd.C_alloc ?_ _) | (with_reducible refine Kd.C_drewN ?_ _) | (with_reducible refine Kd.C_drew ?_))); (case aB => exact (by repeat (first | (with_reducible first | exact HB.out | apply below_alloc | apply pw_below_drewN | apply below_drew1 | refine below_set ?_ GE213.out | refine below_set ?_ GE214.out | refine below_set ?_ GE231.out) | exact HB.out))); (case aF => exact (fun k_ hk => ⟨Kd.fresh' (Kd.R_lt (by (with_reducible repeat (first | apply Kd.R_alloc | apply Kd.R_drewN | apply Kd.R_drew)); exact HO224.out)) k_ hk, Kd.fresh' (Kd.R_lt (by (with_reducible repeat (first | apply Kd.R_alloc | apply Kd.R_drewN | apply Kd.R_drew)); exact HO227.out)) k_ hk, Kd.fresh' (Kd.R_lt (by (with_reducible repeat (first | apply Kd.R_alloc | apply Kd.R_drewN | apply Kd.R_drew)); exact HO230.out)) k_ hk⟩)); (case aO => exact (by (with_reducible repeat (first | apply Kd.R_alloc | apply Kd.R_drewN | apply Kd.R_drew)); exact Kd.R_mono HO240.out (fun _ hk => ⟨hk.1.1.2, ⟨hk.1.2, hk.2⟩⟩))); (case aS => exact (below_size (by repeat (first | (with_reducible first | exact HB.out | apply below_alloc | apply pw_below_drewN | apply below_drew1 | refine below_set ?_ GE213.out | refine below_set ?_ GE214.out | refine below_set ?_ GE231.out) | exact HB.out)))); (case aL => have := LMc6.out; omega); intro v242 w32 ho hb hg hat; rw [← Ny241.out] at ho; have n0_ := Ak (blk_grown (g := gb213) (o := .cells #[.slice A0_0 l0_0.length c0_0, .slice A0_1 l0_1.length c0_1, .slice A0_2 l0_2.length c0_2, .slice A0_3 l0_3.length c0_3, .slice A0_4 l0_4.length c0_4] 26 (0, 0)) (by (with_reducible repeat (first | refine blk_drewN ?_ _ | refine blk_drew ?_ | refine blk_alloc ?_ _)); exact BK213.out) hg (Kd.R_ne HO240.out BK213.out (by decide))); have n1_ := Ak (blk_grown (g := gb214) (o := .cells #[.slice none 0 0, .slice none 0 0, .slice none 0 0, .slice none 0 0, .slice none 0 0] 26 (0, 0)) (by (with_reducible repeat (first | refine blk_drewN ?_ _ | refine blk_drew ?_ | refine blk_alloc ?_ _)); exact BK214.out) hg (Kd.R_ne HO240.out BK214.out (by decide))); have n2_ := Ak (Kd.R_over' (by (with_reducible repeat (first | apply Kd.R_alloc | apply Kd.R_drewN | apply Kd.R_drew)); exact HO218.out) (Kd.R_typed (by (with_reducible repeat (first | apply Kd.R_alloc | apply Kd.R_drewN | apply Kd.R_drew)); exact HO240.out)) (by decide) hg); have n3_ := Ak (Kd.R_over' (by (with_reducible repeat (first | apply Kd.R_alloc | apply Kd.R_drewN | apply Kd.R_drew)); exact HO221.out) (Kd.R_typed (by (with_reducible repeat (first | apply Kd.R_alloc | apply Kd.R_drewN | apply Kd.R_drew)); exact HO240.out)) (by decide) hg); have n4_ := Ak (Kd.R_after (ok := (fun k_ => some k_ ≠ (.slice Ao21 t225.length co21 : Value).ownBlock ∧ some k_ ≠ (.slice Ao22 t228.length co22 : Value).ownBlock)) (by (with_reducible repeat (first | apply Kd.R_alloc | apply Kd.R_drewN | apply Kd.R_drew)); exact HO224.out) hg hat); have n5_ := Ak (Kd.R_after (ok := (fun k_ => some k_ ≠ (.slice Ao20 t222.length co20 : Value).ownBlock ∧ some k_ ≠ (.slice Ao22 t228.length co22 : Value).ownBlock)) (by (with_reducible repeat (first | apply Kd.R_alloc | apply Kd.R_drewN | apply Kd.R_drew)); exact HO227.out) hg hat); have n6_ := Ak (Kd.R_after (ok := (fun k_ => some k_ ≠ (.slice Ao20 t222.length co20 : Value).ownBlock ∧ some k_ ≠ (.slice Ao21 t225.length co21 : Value).ownBlock)) (by (with_reducible repeat (first | apply Kd.R_alloc | apply Kd.R_drewN | apply Kd.R_drew)); exact HO230.out) hg hat); have n7_ := Ak (blk_grown (g := gb231) (o := .cells #[.slice Ao27 y235.length co27, .slice Ao19 t219.length co19, .slice Ao20 t222.length co20, .slice Ao21 t225.length co21, .slice Ao22 t228.length co22] 26 (0, 0)) (by (with_reducible repeat (first | refine blk_drewN ?_ _ | refine blk_drew ?_ | refine blk_alloc ?_ _)); exact BK231.out) hg (Kd.R_ne HO240.out BK231.out (by decide))); have n8_ := Ak (Kd.R_over' (by (with_reducible repeat (first | apply Kd.R_alloc | apply Kd.R_drewN | apply Kd.R_drew)); exact HO237.out) (Kd.R_typed (by (with_reducible repeat (first | apply Kd.R_alloc | apply Kd.R_drewN | apply Kd.R_drew)); exact HO240.out)) (by decide) hg); have n9_ := Ak (hb); have n10_ := Ak (ho); clear BK213; clear BK214; clear HO218; clear HO221; clear HO224; clear HO227; clear HO230; clear BK231; clear HO237; clear HB; clear HO240; have BK213 := n0_; have BK214 := n1_; have HO218 := n2_; have HO221 := n3_; have HO224 := n4_; have HO227 := n5_; have HO230 := n6_; have BK231 := n7_; have HO237 := n8_; have HB := n9_; have HO243 := n10_; clear n0_ n1_ n2_ n3_ n4_ n5_ n6_ n7_ n8_ n9_ n10_; clear ho hb hg hat; obtain ⟨Ao33, co33, eo33⟩ := Kd.R_slice HO243.out; subst eo33; have hcz34_0 : w32.cell? ⟨gb231, 0, none⟩ = some (.slice Ao27 y235.length co27) := (blk_cell BK231.out 0).trans rfl; have hcz34_1 : w32.cell? ⟨gb231, 1, none⟩ = some (.slice Ao19 t219.length co19) := (blk_cell BK231.out 1).trans rfl; have hcz34_2 : w32.cell? ⟨gb231, 2, none⟩ = some (.slice Ao20 t222.length co20) := (blk_cell BK231.out 2).trans rfl; have hcz34_3 : w32.cell? ⟨gb231, 3, none⟩ = some (.slice Ao21 t225.length co21) := (blk_cell BK231.out 3).trans rfl; have hcz34_4 : w32.cell? ⟨gb231, 4, none⟩ = some (.slice Ao22 t228.length co22) := (blk_cell BK231.out 4).trans rfl; have hfz34_0 := blk_frozen BK231.out 0; have hfz34_1 := blk_frozen BK231.out 1; have hfz34_2 := blk_frozen BK231.out 2; have hfz34_3 := blk_frozen BK231.out 3; have hfz34_4 := blk_frozen BK231.out 4; have hcz35_0 : w32.cell? ⟨gb214, 0, none⟩ = some (.slice none 0 0) := (blk_cell BK214.out 0).trans rfl; have hcz35_1 : w32.cell? ⟨gb214, 1, none⟩ = some (.slice none 0 0) := (blk_cell BK214.out 1).trans rfl; have hcz35_2 : w32.cell? ⟨gb214, 2, none⟩ = some (.slice none 0 0) := (blk_cell BK214.out 2).trans rfl; have hcz35_3 : w32.cell? ⟨gb214, 3, none⟩ = some (.slice none 0 0) := (blk_cell BK214.out 3).trans rfl; have hcz35_4 : w32.cell? ⟨gb214, 4, none⟩ = some (.slice none 0 0) := (blk_cell BK214.out 4).trans rfl; have hfz35_0 := blk_frozen BK214.out 0; have hfz35_1 := blk_frozen BK214.out 1; have hfz35_2 := blk_frozen BK214.out 2; have hfz35_3 := blk_frozen BK214.out 3; have hfz35_4 := blk_frozen BK214.out 4))
    refine bodyPost_ret (results_cell_row rfl _ _ gb214 26 #[.slice Ao27 y235.length co27, .slice Ao19 t219.length co19, .slice Ao33 y241.length co33, .slice Ao21 t225.length co21, .slice Ao22 t228.length co22] (0, 0) _ rfl (by (with_reducible repeat (first | refine blk_drewN ?_ _ | refine blk_drew ?_ | refine blk_alloc ?_ _)); refine blk_put (cs := #[.slice Ao27 y235.length co27, .slice Ao19 t219.length co19, .slice Ao33 y241.length co33, .slice Ao21 t225.length co21, .slice none 0 0]) ?_ 4 _ rfl; (with_reducible repeat (first | refine blk_drewN ?_ _ | refine blk_drew ?_ | refine blk_alloc ?_ _)); refine blk_put (cs := #[.slice Ao27 y235.length co27, .slice Ao19 t219.length co19, .slice Ao33 y241.length co33, .slice none 0 0, .slice none 0 0]) ?_ 3 _ rfl; (with_reducible repeat (first | refine blk_drewN ?_ _ | refine blk_drew ?_ | refine blk_alloc ?_ _)); refine blk_put (cs := #[.slice Ao27 y235.length co27, .slice Ao19 t219.length co19, .slice none 0 0, .slice none 0 0, .slice none 0 0]) ?_ 2 _ rfl; (with_reducible repeat (first | refine blk_drewN ?_ _ | refine blk_drew ?_ | refine blk_alloc ?_ _)); refine blk_put (cs := #[.slice Ao27 y235.length co27, .slice none 0 0, .slice none 0 0, .slice none 0 0, .slice none 0 0]) ?_ 1 _ rfl; (with_reducible repeat (first | refine blk_drewN ?_ _ | refine blk_drew ?_ | refine blk_alloc ?_ _)); refine blk_put (cs := #[.slice none 0 0, .slice none 0 0, .slice none 0 0, .slice none 0 0, .slice none 0 0]) ?_ 0 _ rfl; (with_reducible repeat (first | refine blk_drewN ?_ _ | refine blk_drew ?_ | refine blk_alloc ?_ _)); refine blk_far ?_ NB214_231.out _; (with_reducible repeat (first | refine blk_drewN ?_ _ | refine blk_drew ?_ | refine blk_alloc ?_ _)); exact BK214.out) Try.underlying26 rfl (by kernel_rfl)) rfl ?_
    exact ⟨_, _, _, _, _, by first | rfl | (simp [errW_none, errW_some] <;> rfl) | (simp [*, errW_none, errW_some] <;> rfl), by (with_reducible repeat (first | apply Kd.R_alloc | apply Kd.R_drewN | apply Kd.R_drew)); exact Kd.R_mono (Kd.R_far (p := ⟨gb214, 4, none⟩) (Kd.R_far (p := ⟨gb214, 3, none⟩) (Kd.R_far (p := ⟨gb214, 2, none⟩) (Kd.R_far (p := ⟨gb214, 1, none⟩) (Kd.R_far (p := ⟨gb214, 0, none⟩) (Kd.R_far (p := ⟨gb231, 2, none⟩) (Kd.R_types (Kd.R_types HO237.out BK231.out (by decide)) BK214.out (by decide)) (fun _ hk => hk.1.2) (.slice Ao33 y241.length co33)) (fun _ hk => hk.2) (.slice Ao27 y235.length co27)) (fun _ hk => hk.2) (.slice Ao19 t219.length co19)) (fun _ hk => hk.2) (.slice Ao33 y241.length co33)) (fun _ hk => hk.2) (.slice Ao21 t225.length co21)) (fun _ hk => hk.2) (.slice Ao22 t228.length co22)) (fun _ hk => hk.1.1.2), by (with_reducible repeat (first | apply Kd.R_alloc | apply Kd.R_drewN | apply Kd.R_drew)); exact Kd.R_mono (Kd.R_far (p := ⟨gb214, 4, none⟩) (Kd.R_far (p := ⟨gb214, 3, none⟩) (Kd.R_far (p := ⟨gb214, 2, none⟩) (Kd.R_far (p := ⟨gb214, 1, none⟩) (Kd.R_far (p := ⟨gb214, 0, none⟩) (Kd.R_far (p := ⟨gb231, 2, none⟩) (Kd.R_types (Kd.R_types HO221.out BK231.out (by decide)) BK214.out (by decide)) (fun _ hk => hk.1.2) (.slice Ao33 y241.length co33)) (fun _ hk => hk.2) (.slice Ao27 y235.length co27)) (fun _ hk => hk.2) (.slice Ao19 t219.length co19)) (fun _ hk => hk.2) (.slice Ao33 y241.length co33)) (fun _ hk => hk.2) (.slice Ao21 t225.length co21)) (fun _ hk => hk.2) (.slice Ao22 t228.length co22)) (fun _ hk => hk.1.1.2), by (with_reducible repeat (first | apply Kd.R_alloc | apply Kd.R_drewN | apply Kd.R_drew)); exact Kd.R_mono (Kd.R_far (p := ⟨gb214, 4, none⟩) (Kd.R_far (p := ⟨gb214, 3, none⟩) (Kd.R_far (p := ⟨gb214, 2, none⟩) (Kd.R_far (p := ⟨gb214, 1, none⟩) (Kd.R_far (p := ⟨gb214, 0, none⟩) (Kd.R_far (p := ⟨gb231, 2, none⟩) (Kd.R_types (Kd.R_types HO243.out BK231.out (by decide)) BK214.out (by decide)) (fun _ hk => hk.1.2) (.slice Ao33 y241.length co33)) (fun _ hk => hk.2) (.slice Ao27 y235.length co27)) (fun _ hk => hk.2) (.slice Ao19 t219.length co19)) (fun _ hk => hk.2) (.slice Ao33 y241.length co33)) (fun _ hk => hk.2) (.slice Ao21 t225.length co21)) (fun _ hk => hk.2) (.slice Ao22 t228.length co22)) (fun _ hk => ⟨hk.1.1.2.1, hk.1.1.2.2⟩), by (with_reducible repeat (first | apply Kd.R_alloc | apply Kd.R_drewN | apply Kd.R_drew)); exact Kd.R_mono (Kd.R_far (p := ⟨gb214, 4, none⟩) (Kd.R_far (p := ⟨gb214, 3, none⟩) (Kd.R_far (p := ⟨gb214, 2, none⟩) (Kd.R_far (p := ⟨gb214, 1, none⟩) (Kd.R_far (p := ⟨gb214, 0, none⟩) (Kd.R_far (p := ⟨gb231, 2, none⟩) (Kd.R_types (Kd.R_types HO227.out BK231.out (by decide)) BK214.out (by decide)) (fun _ hk => hk.1.2) (.slice Ao33 y241.length co33)) (fun _ hk => hk.2) (.slice Ao27 y235.length co27)) (fun _ hk => hk.2) (.slice Ao19 t219.length co19)) (fun _ hk => hk.2) (.slice Ao33 y241.length co33)) (fun _ hk => hk.2) (.slice Ao21 t225.length co21)) (fun _ hk => hk.2) (.slice Ao22 t228.length co22)) (fun _ hk => ⟨hk.1.1.2, hk.1.1.1.2⟩), by (with_reducible repeat (first | apply Kd.R_alloc | apply Kd.R_drewN | apply Kd.R_drew)); exact Kd.R_mono (Kd.R_far (p := ⟨gb214, 4, none⟩) (Kd.R_far (p := ⟨gb214, 3, none⟩) (Kd.R_far (p := ⟨gb214, 2, none⟩) (Kd.R_far (p := ⟨gb214, 1, none⟩) (Kd.R_far (p := ⟨gb214, 0, none⟩) (Kd.R_far (p := ⟨gb231, 2, none⟩) (Kd.R_types (Kd.R_types HO230.out BK231.out (by decide)) BK214.out (by decide)) (fun _ hk => hk.1.2) (.slice Ao33 y241.length co33)) (fun _ hk => hk.2) (.slice Ao27 y235.length co27)) (fun _ hk => hk.2) (.slice Ao19 t219.length co19)) (fun _ hk => hk.2) (.slice Ao33 y241.length co33)) (fun _ hk => hk.2) (.slice Ao21 t225.length co21)) (fun _ hk => hk.2) (.slice Ao22 t228.length co22)) (fun _ hk => ⟨hk.1.1.2, hk.1.1.1.2⟩), by repeat (first | (with_reducible first | exact HB.out | apply below_alloc | apply pw_below_drewN | apply below_drew1 | refine below_set ?_ GE213.out | refine below_set ?_ GE214.out | refine below_set ?_ GE231.out) | exact HB.out)⟩
   ·rw [if_neg c6] at H
    exact absurd H (by simp)
  ·rw [if_neg c5] at H
   exact absurd H (by simp)
 ·replace c3 := Bool.eq_false_iff.mpr c3
  subst c3
  have H1 : (some (([] : List ByteArray), ([] : List ByteArray), ([] : List Int), ([] : List Int), ([] : List Int))) = some (r1, r2, r3, r4, r5) := by rw [if_neg (show ¬ (false = true) by decide)] at H; exact H
  clear H
  have H := H1
  clear H1
  simp only [Option.some.injEq, Prod.mk.injEq] at H
  obtain ⟨rfl, rfl, rfl, rfl, rfl⟩ := H
  go_enter Try.func35, Try.ntmps35
  go_wp2_with (first | ((with_reducible refine gate_dst (N := 1) rfl ?_); refine box_event ?hg (N := 1) ?hd (cs := #[.slice A0_0 l0_0.length c0_0, .slice A0_1 l0_1.length c0_1, .slice A0_2 l0_2.length c0_2, .slice A0_3 l0_3.length c0_3, .slice A0_4 l0_4.length c0_4]) (t := 26) ?hr ?_; (case hd => rfl); (case hg => rfl); (case hr => first | (go_simp; done) | (go_simp; rfl)); intro gb213 hg w36 hbox hb; have n0_ := Ak (below_step (by repeat (first | (with_reducible first | exact HB.out | apply below_alloc | apply pw_below_drewN | apply below_drew1) | exact HB.out)) hb); have n1_ := Ak (hbox); have n2_ := Ak ((by rw [hg]; exact (below_size (by repeat (first | (with_reducible first | exact HB.out | apply below_alloc | apply pw_below_drewN | apply below_drew1) | exact HB.out))) : w.heap.size ≤ gb213)); have n3_ := Ak ((by rw [hg]; exact (below_size (by repeat (first | (with_reducible first | exact HB.out | apply below_alloc | apply pw_below_drewN | apply below_drew1) | exact HB.out))) : w.heap.size ≤ gb213)); clear HB; have HB := n0_; have BK213 := n1_; have GW213 := n2_; have GE213 := n3_; clear n0_ n1_ n2_ n3_; clear hb hbox hg) | ((with_reducible refine gate_dst (N := 2) rfl ?_); refine box_event ?hg (N := 2) ?hd (cs := #[.slice none 0 0, .slice none 0 0, .slice none 0 0, .slice none 0 0, .slice none 0 0]) (t := 26) ?hr ?_; (case hd => rfl); (case hg => rfl); (case hr => first | (go_simp; done) | (go_simp; rfl)); intro gb214 hg w37 hbox hb; have n0_ := Ak (blk_below (g := gb213) (o := .cells #[.slice A0_0 l0_0.length c0_0, .slice A0_1 l0_1.length c0_1, .slice A0_2 l0_2.length c0_2, .slice A0_3 l0_3.length c0_3, .slice A0_4 l0_4.length c0_4] 26 (0, 0)) (by (with_reducible repeat (first | refine blk_drewN ?_ _ | refine blk_drew ?_ | refine blk_alloc ?_ _)); exact BK213.out) hb); have n1_ := Ak (below_step (by repeat (first | (with_reducible first | exact HB.out | apply below_alloc | apply pw_below_drewN | apply below_drew1 | refine below_set ?_ GE213.out) | exact HB.out)) hb); have n2_ := Ak (hbox); have n3_ := Ak ((by rw [hg]; exact (below_size (by repeat (first | (with_reducible first | exact HB.out | apply below_alloc | apply pw_below_drewN | apply below_drew1 | refine below_set ?_ GE213.out) | exact HB.out))) : w.heap.size ≤ gb214)); have n4_ := Ak ((by rw [hg]; exact (below_size (by repeat (first | (with_reducible first | exact HB.out | apply below_alloc | apply pw_below_drewN | apply below_drew1 | refine below_set ?_ GE213.out) | exact HB.out))) : w.heap.size ≤ gb214)); have n5_ := Ak ((by rw [hg]; exact Nat.ne_of_lt (blk_lt (g := gb213) (o := .cells #[.slice A0_0 l0_0.length c0_0, .slice A0_1 l0_1.length c0_1, .slice A0_2 l0_2.length c0_2, .slice A0_3 l0_3.length c0_3, .slice A0_4 l0_4.length c0_4] 26 (0, 0)) (by (with_reducible repeat (first | refine blk_drewN ?_ _ | refine blk_drew ?_ | refine blk_alloc ?_ _)); exact BK213.out)) : gb213 ≠ gb214)); have n6_ := Ak ((by rw [hg]; exact Nat.ne_of_gt (blk_lt (g := gb213) (o := .cells #[.slice A0_0 l0_0.length c0_0, .slice A0_1 l0_1.length c0_1, .slice A0_2 l0_2.length c0_2, .slice A0_3 l0_3.length c0_3, .slice A0_4 l0_4.length c0_4] 26 (0, 0)) (by (with_reducible repeat (first | refine blk_drewN ?_ _ | refine blk_drew ?_ | refine blk_alloc ?_ _)); exact BK213.out)) : gb214 ≠ gb213)); clear BK213; clear HB; have BK213 := n0_; have HB := n1_; have BK214 := n2_; have GW214 := n3_; have GE214 := n4_; have NB213_214 := n5_; have NB214_213 := n6_; clear n0_ n1_ n2_ n3_ n4_ n5_ n6_; clear hb hbox hg; have hnb38 := NB213_214.out; have hnc38 := NB214_213.out; have hcz39_0 : w37.cell? ⟨gb213, 0, none⟩ = some (.slice A0_0 l0_0.length c0_0) := (blk_cell BK213.out 0).trans rfl; have hcz39_1 : w37.cell? ⟨gb213, 1, none⟩ = some (.slice A0_1 l0_1.length c0_1) := (blk_cell BK213.out 1).trans rfl; have hcz39_2 : w37.cell? ⟨gb213, 2, none⟩ = some (.slice A0_2 l0_2.length c0_2) := (blk_cell BK213.out 2).trans rfl; have hcz39_3 : w37.cell? ⟨gb213, 3, none⟩ = some (.slice A0_3 l0_3.length c0_3) := (blk_cell BK213.out 3).trans rfl; have hcz39_4 : w37.cell? ⟨gb213, 4, none⟩ = some (.slice A0_4 l0_4.length c0_4) := (blk_cell BK213.out 4).trans rfl; have hfz39_0 := blk_frozen BK213.out 0; have hfz39_1 := blk_frozen BK213.out 1; have hfz39_2 := blk_frozen BK213.out 2; have hfz39_3 := blk_frozen BK213.out 3; have hfz39_4 := blk_frozen BK213.out 4) | ((with_reducible refine gate_callee (f := 19) rfl ?_); refine goesL_ (some 5) rfl rfl Try.func19 (by kernel_rfl) rfl #[.agg #[.slice A0_0 l0_0.length c0_0, .slice A0_1 l0_1.length c0_1, .slice A0_2 l0_2.length c0_2, .slice A0_3 l0_3.length c0_3, .slice A0_4 l0_4.length c0_4]] rfl (by (try simp only [List.map_toArray, List.map_cons, List.map_nil]); first | done | rfl | (simp only [List.length_drop, List.length_take]; rfl)) ?_; (with_reducible refine (spec_StoreOk.calls k _ _ l0_0 _ _ l0_1 _ _ l0_2 _ _ l0_3 _ _ l0_4 false _ ?side1 ?side2 ?side3 ?side4 ?side5 ?side6 ?side7 ?side8 ?side9 ?side10 A2.out).mono ?_); (case side1 => repeat (first | exact (Kd.C_below HR0_0.out HB.out) | (with_reducible refine Kd.C_alloc ?_ _) | (with_reducible refine Kd.C_drewN ?_ _) | (with_reducible refine Kd.C_drew ?_))); (case side2 => exact HC0_0.out); (case side3 => repeat (first | exact (Kd.C_below HR0_1.out HB.out) | (with_reducible refine Kd.C_alloc ?_ _) | (with_reducible refine Kd.C_drewN ?_ _) | (with_reducible refine Kd.C_drew ?_))); (case side4 => exact HC0_1.out); (case side5 => repeat (first | exact (Kd.C_below HR0_2.out HB.out) | (with_reducible refine Kd.C_alloc ?_ _) | (with_reducible refine Kd.C_drewN ?_ _) | (with_reducible refine Kd.C_drew ?_))); (case side6 => exact HC0_2.out); (case side7 => repeat (first | exact (Kd.C_below HR0_3.out HB.out) | (with_reducible refine Kd.C_alloc ?_ _) | (with_reducible refine Kd.C_drewN ?_ _) | (with_reducible refine Kd.C_drew ?_))); (case side8 => exact HC0_3.out); (case side9 => repeat (first | exact (Kd.C_below HR0_4.out HB.out) | (with_reducible refine Kd.C_alloc ?_ _) | (with_reducible refine Kd.C_drewN ?_ _) | (with_reducible refine Kd.C_drew ?_))); (case side10 => exact HC0_4.out); rintro e w40 ⟨rfl, hb⟩; refine ⟨_, rfl, ?_⟩; have n0_ := Ak (blk_below (g := gb213) (o := .cells #[.slice A0_0 l0_0.length c0_0, .slice A0_1 l0_1.length c0_1, .slice A0_2 l0_2.length c0_2, .slice A0_3 l0_3.length c0_3, .slice A0_4 l0_4.length c0_4] 26 (0, 0)) (by (with_reducible repeat (first | refine blk_drewN ?_ _ | refine blk_drew ?_ | refine blk_alloc ?_ _)); exact BK213.out) hb); have n1_ := Ak (blk_below (g := gb214) (o := .cells #[.slice none 0 0, .slice none 0 0, .slice none 0 0, .slice none 0 0, .slice none 0 0] 26 (0, 0)) (by (with_reducible repeat (first | refine blk_drewN ?_ _ | refine blk_drew ?_ | refine blk_alloc ?_ _)); exact BK214.out) hb); have n2_ := Ak (below_step (by repeat (first | (with_reducible first | exact HB.out | apply below_alloc | apply pw_below_drewN | apply below_drew1 | refine below_set ?_ GE213.out | refine below_set ?_ GE214.out) | exact HB.out)) hb); clear BK213; clear BK214; clear HB; have BK213 := n0_; have BK214 := n1_; have HB := n2_; clear n0_ n1_ n2_; (try clear hb); (try clear hb2); (try clear hk); (try clear hi); have hcz41_0 : w40.cell? ⟨gb214, 0, none⟩ = some (.slice none 0 0) := (blk_cell BK214.out 0).trans rfl; have hcz41_1 : w40.cell? ⟨gb214, 1, none⟩ = some (.slice none 0 0) := (blk_cell BK214.out 1).trans rfl; have hcz41_2 : w40.cell? ⟨gb214, 2, none⟩ = some (.slice none 0 0) := (blk_cell BK214.out 2).trans rfl; have hcz41_3 : w40.cell? ⟨gb214, 3, none⟩ = some (.slice none 0 0) := (blk_cell BK214.out 3).trans rfl; have hcz41_4 : w40.cell? ⟨gb214, 4, none⟩ = some (.slice none 0 0) := (blk_cell BK214.out 4).trans rfl; have hfz41_0 := blk_frozen BK214.out 0; have hfz41_1 := blk_frozen BK214.out 1; have hfz41_2 := blk_frozen BK214.out 2; have hfz41_3 := blk_frozen BK214.out 3; have hfz41_4 := blk_frozen BK214.out 4))
  refine bodyPost_ret (results_cell_row rfl _ _ gb214 26 #[.slice none 0 0, .slice none 0 0, .slice none 0 0, .slice none 0 0, .slice none 0 0] (0, 0) _ rfl (by (with_reducible repeat (first | refine blk_drewN ?_ _ | refine blk_drew ?_ | refine blk_alloc ?_ _)); refine blk_put (cs := #[.slice none 0 0, .slice none 0 0, .slice none 0 0, .slice none 0 0, .slice none 0 0]) ?_ 4 _ rfl; (with_reducible repeat (first | refine blk_drewN ?_ _ | refine blk_drew ?_ | refine blk_alloc ?_ _)); refine blk_put (cs := #[.slice none 0 0, .slice none 0 0, .slice none 0 0, .slice none 0 0, .slice none 0 0]) ?_ 3 _ rfl; (with_reducible repeat (first | refine blk_drewN ?_ _ | refine blk_drew ?_ | refine blk_alloc ?_ _)); refine blk_put (cs := #[.slice none 0 0, .slice none 0 0, .slice none 0 0, .slice none 0 0, .slice none 0 0]) ?_ 2 _ rfl; (with_reducible repeat (first | refine blk_drewN ?_ _ | refine blk_drew ?_ | refine blk_alloc ?_ _)); refine blk_put (cs := #[.slice none 0 0, .slice none 0 0, .slice none 0 0, .slice none 0 0, .slice none 0 0]) ?_ 1 _ rfl; (with_reducible repeat (first | refine blk_drewN ?_ _ | refine blk_drew ?_ | refine blk_alloc ?_ _)); refine blk_put (cs := #[.slice none 0 0, .slice none 0 0, .slice none 0 0, .slice none 0 0, .slice none 0 0]) ?_ 0 _ rfl; (with_reducible repeat (first | refine blk_drewN ?_ _ | refine blk_drew ?_ | refine blk_alloc ?_ _)); exact BK214.out) Try.underlying26 rfl (by kernel_rfl)) rfl ?_
  exact ⟨_, _, _, _, _, by first | rfl | (simp [errW_none, errW_some] <;> rfl) | (simp [*, errW_none, errW_some] <;> rfl), by first | exact Kd.R_nil _ _ _ _ _ | exact Kd.N_nil _ _ _ _ _ | exact Kd.V_nil _ _ _ _ _ | exact Kd.Q_nil _ _ _ _ _ | exact Kd.S_nil _ _ _ _ _, by first | exact Kd.R_nil _ _ _ _ _ | exact Kd.N_nil _ _ _ _ _ | exact Kd.V_nil _ _ _ _ _ | exact Kd.Q_nil _ _ _ _ _ | exact Kd.S_nil _ _ _ _ _, by first | exact Kd.R_nil _ _ _ _ _ | exact Kd.N_nil _ _ _ _ _ | exact Kd.V_nil _ _ _ _ _ | exact Kd.Q_nil _ _ _ _ _ | exact Kd.S_nil _ _ _ _ _, by first | exact Kd.R_nil _ _ _ _ _ | exact Kd.N_nil _ _ _ _ _ | exact Kd.V_nil _ _ _ _ _ | exact Kd.Q_nil _ _ _ _ _ | exact Kd.S_nil _ _ _ _ _, by first | exact Kd.R_nil _ _ _ _ _ | exact Kd.N_nil _ _ _ _ _ | exact Kd.V_nil _ _ _ _ _ | exact Kd.Q_nil _ _ _ _ _ | exact Kd.S_nil _ _ _ _ _, by repeat (first | (with_reducible first | exact HB.out | apply below_alloc | apply pw_below_drewN | apply below_drew1 | refine below_set ?_ GE213.out | refine below_set ?_ GE214.out) | exact HB.out)⟩
end Go.Proofs.Ytmekkapacbdbeaa.P
namespace Go.Proofs.Ytmekkapacbdbeaa.P
open Go.RowKit Go.Proofs.YtmekkapacbdbeaaW.PrintWords Go.Proofs.YtmekkapacbdbeaaW.PrintLast Go.Proofs.YtmekkapacbdbeaaW.PrintMore
attribute [local go_sem] max2_int min2_int max_two min_two max_three min_three max_four min_four   
set_option linter.unusedVariables false
set_option linter.unusedSimpArgs false
end Go.Proofs.Ytmekkapacbdbeaa.P
namespace Go.Proofs.Ytmekkapacbdbeaa.P
open Go.RowKit Go.Proofs.YtmekkapacbdbeaaW.PrintWords Go.Proofs.YtmekkapacbdbeaaW.PrintLast Go.Proofs.YtmekkapacbdbeaaW.PrintMore
def stNew : St := ⟨List.replicate 3 ⟨#[]⟩, List.replicate 3 ⟨#[]⟩, List.replicate 3 0, List.replicate 3 0, List.replicate 3 0⟩
theorem stNew_small : Small stNew := by unfold Small stNew; simp
theorem small_new {t : St} (ht : stNew = t) : Small t := ht ▸ stNew_small
theorem stNone_small : Small stNone := by unfold Small stNone; simp
def syncSt (s : St) : St := if stOk s = true then ⟨s.now, s.now, s.last, s.last, s.floors⟩ else stNone
def fallSt (s : St) : St := if stOk s = true then ⟨s.sure, s.sure, s.slast, s.slast, s.floors⟩ else stNone
theorem syncSt_small {s t : St} (ht : syncSt s = t) (h : Small s) : Small t := by
 subst ht
 unfold syncSt
 split
 ·exact ⟨h.1, h.1, h.2.2.1, h.2.2.1, h.2.2.2.2⟩
 ·exact stNone_small
theorem fallSt_small {s t : St} (ht : fallSt s = t) (h : Small s) : Small t := by
 subst ht
 unfold fallSt
 split
 ·exact ⟨h.2.1, h.2.1, h.2.2.2.1, h.2.2.2.1, h.2.2.2.2⟩
 ·exact stNone_small
theorem spec_l5Copy_eq {s : St} (hs : Small s) : spec_l5Copy.f s.now s.sure s.last s.slast s.floors = some (s.now, s.sure, s.last, s.slast, s.floors) := by
 obtain ⟨g0, g1, g2, g3, g4⟩ := hs
 unfold spec_l5Copy.f
 simp only [Option.bind_some, List.length_nil, Nat.zero_add, List.nil_append]
 rw [if_pos (by omega), if_pos (by omega), if_pos (by omega), if_pos (by omega), if_pos (by omega)]
section
variable {s : St}
theorem spec_StoreSync_ev (hl : s.now.length ≤ 9223372036854775807 ∧ s.sure.length ≤ 9223372036854775807) (hz : Sized s) (hs : Small s) : Ev (fun k => spec_StoreSync.f k s.now s.sure s.last s.slast s.floors) ((syncSt s).now, (syncSt s).sure, (syncSt s).last, (syncSt s).slast, (syncSt s).floors) := by
 unfold spec_StoreSync.f syncSt
 refine Ev.bind (spec_StoreOk_ev hl hz) ?_
 cases hk : stOk s
 ·exact Ev.now _
 refine Ev.congr (f := fun _ => some (s.now, s.now, s.last, s.last, s.floors)) (fun k => ?_) (Ev.now _)
 rw [if_pos rfl, spec_l5Copy_eq hs]
 obtain ⟨g0, g1, g2, g3, g4⟩ := hs
 simp only [Option.bind_some, List.length_nil, Nat.zero_add, List.nil_append]
 rw [if_pos (by omega), if_pos (by omega)]
theorem spec_StoreFall_ev (hl : s.now.length ≤ 9223372036854775807 ∧ s.sure.length ≤ 9223372036854775807) (hz : Sized s) (hs : Small s) : Ev (fun k => spec_StoreFall.f k s.now s.sure s.last s.slast s.floors) ((fallSt s).now, (fallSt s).sure, (fallSt s).last, (fallSt s).slast, (fallSt s).floors) := by
 unfold spec_StoreFall.f fallSt
 refine Ev.bind (spec_StoreOk_ev hl hz) ?_
 cases hk : stOk s
 ·exact Ev.now _
 refine Ev.congr (f := fun _ => some (s.sure, s.sure, s.slast, s.slast, s.floors)) (fun k => ?_) (Ev.now _)
 rw [if_pos rfl, spec_l5Copy_eq hs]
 obtain ⟨g0, g1, g2, g3, g4⟩ := hs
 simp only [Option.bind_some, List.length_nil, Nat.zero_add, List.nil_append]
 rw [if_pos (by omega), if_pos (by omega)]
variable {w : World} {v : Value} {t : St}
theorem spec_StoreNew_c (ht : stNew = t) : Calls Try.prog 29 #[] w fun e w' => ∃ u, e = .returned u ∧ StR w' w.heap.size w'.heap.size u t ∧ Below w.heap.size w w' := by
 subst ht
 refine (spec_StoreNew.calls stNew.now stNew.sure stNew.last stNew.slast stNew.floors w (by unfold spec_StoreNew.f; rw [if_pos (by decide), if_pos (by decide)]; rfl)).mono ?_
 rintro e w' ⟨v0, v1, v2, v3, v4, he, r0, r1, r2, r3, r4, hb⟩
 exact ⟨_, he, StR.mk r0 r1 r2 r3 r4, hb⟩
theorem spec_StoreSync_c (hv : StC w v s) (hz : Sized s) (hs : Small s) (ht : syncSt s = t) : Calls Try.prog 36 #[v] w fun e w' => ∃ u, e = .returned u ∧ StR w' w.heap.size w'.heap.size u t ∧ Below w.heap.size w w' := by
 obtain ⟨k, hk⟩ := (spec_StoreSync_ev ⟨hv.lens.1, hv.lens.2.1⟩ hz hs).rounds
 obtain ⟨A0, c0, A1, c1, A2, c2, A3, c3, A4, c4, rfl, g0, g1, g2, g3, g4⟩ := hv
 rw [ht] at hk
 refine (spec_StoreSync.calls k A0 c0 s.now A1 c1 s.sure A2 c2 s.last A3 c3 s.slast A4 c4 s.floors _ _ _ _ _ w g0.1 g0.2 g1.1 g1.2 g2.1 g2.2 g3.1 g3.2 g4.1 g4.2 hk).mono ?_
 rintro e w' ⟨v0, v1, v2, v3, v4, he, r0, r1, r2, r3, r4, hb⟩
 exact ⟨_, he, StR.mk r0 r1 r2 r3 r4, hb⟩
theorem spec_StoreFall_c (hv : StC w v s) (hz : Sized s) (hs : Small s) (ht : fallSt s = t) : Calls Try.prog 35 #[v] w fun e w' => ∃ u, e = .returned u ∧ StR w' w.heap.size w'.heap.size u t ∧ Below w.heap.size w w' := by
 obtain ⟨k, hk⟩ := (spec_StoreFall_ev ⟨hv.lens.1, hv.lens.2.1⟩ hz hs).rounds
 obtain ⟨A0, c0, A1, c1, A2, c2, A3, c3, A4, c4, rfl, g0, g1, g2, g3, g4⟩ := hv
 rw [ht] at hk
 refine (spec_StoreFall.calls k A0 c0 s.now A1 c1 s.sure A2 c2 s.last A3 c3 s.slast A4 c4 s.floors _ _ _ _ _ w g0.1 g0.2 g1.1 g1.2 g2.1 g2.2 g3.1 g3.2 g4.1 g4.2 hk).mono ?_
 rintro e w' ⟨v0, v1, v2, v3, v4, he, r0, r1, r2, r3, r4, hb⟩
 exact ⟨_, he, StR.mk r0 r1 r2 r3 r4, hb⟩
end
end Go.Proofs.Ytmekkapacbdbeaa.P
namespace Go.Proofs.Ytmekkapacbdbeaa.P
open Go.RowKit Go.Proofs.YtmekkapacbdbeaaW.PrintWords Go.Proofs.YtmekkapacbdbeaaW.PrintLast Go.Proofs.YtmekkapacbdbeaaW.PrintMore
attribute [local go_sem] max2_int min2_int max_two min_two max_three min_three max_four min_four   
set_option linter.unusedVariables false
set_option linter.unusedSimpArgs false
def spec_l4Who.f (a0 : Int) : Option (Bool) := if a0 ≥ 0 then (some (decide (a0 < 3))) else (some false)
set_option maxHeartbeats 8000000 in
set_option maxRecDepth 100000 in
theorem spec_l4Who.calls (a0 : Int) (r : Bool) (w : World) (h : spec_l4Who.f a0 = some r) :
  Calls Try.prog 71 #[.int .i64 a0] w fun e w' => e = .returned (.bool r) ∧ Drawn0 w w' := by
 have H : (if a0 ≥ 0 then (some (decide (a0 < 3))) else (some false)) = some r := h
 clear h
 by_cases c2 : a0 ≥ 0
 ·rw [if_pos c2] at H
  have c2b0 : decide (0 ≤ a0) = true := decide_eq_true c2
  clear c2
  obtain rfl := Option.some.inj H
  go_enter Try.func71, Try.ntmps71
  go_wp2
  go_ret
  exact ⟨by first | rfl | (simp; done) | (simp [*]; done), by repeat (first | exact Drawn0.refl _ | apply Drawn0.step)⟩
 ·rw [if_neg c2] at H
  have c2b0 : decide (0 ≤ a0) = false := decide_eq_false c2
  clear c2
  obtain rfl := Option.some.inj H
  go_enter Try.func71, Try.ntmps71
  go_wp2
  go_ret
  exact ⟨by first | rfl | (simp; done) | (simp [*]; done), by repeat (first | exact Drawn0.refl _ | apply Drawn0.step)⟩
end Go.Proofs.Ytmekkapacbdbeaa.P
namespace Go.Proofs.Ytmekkapacbdbeaa.P
open Go.RowKit Go.Proofs.YtmekkapacbdbeaaW.PrintWords Go.Proofs.YtmekkapacbdbeaaW.PrintLast Go.Proofs.YtmekkapacbdbeaaW.PrintMore
attribute [local go_sem] max2_int min2_int max_two min_two max_three min_three max_four min_four   
set_option linter.unusedVariables false
set_option linter.unusedSimpArgs false
def impl_client.f (a0 : Int) : Option (Bool) := if a0 ≥ 0 then (some (decide (a0 < 3))) else (some false)
end Go.Proofs.Ytmekkapacbdbeaa.P
namespace Go.Proofs.Ytmekkapacbdbeaa.P
open Go.RowKit Go.Proofs.YtmekkapacbdbeaaW.PrintWords Go.Proofs.YtmekkapacbdbeaaW.PrintLast Go.Proofs.YtmekkapacbdbeaaW.PrintMore
attribute [local go_sem] max2_int min2_int max_two min_two max_three min_three max_four min_four   
set_option linter.unusedVariables false
set_option linter.unusedSimpArgs false
def spec_l1Max.f (a0 : Int) (a1 : Int) : Option (Int) := if a0 > a1 then (some a0) else (some a1)
set_option maxHeartbeats 8000000 in
set_option maxRecDepth 100000 in
theorem spec_l1Max.calls (a0 : Int) (a1 : Int) (r : Int) (w : World) (h : spec_l1Max.f a0 a1 = some r) :
  Calls Try.prog 72 #[.int .i64 a0, .int .i64 a1] w fun e w' => e = .returned (.int .i64 r) ∧ Drawn0 w w' := by
 have H : (if a0 > a1 then (some a0) else (some a1)) = some r := h
 clear h
 by_cases c3 : a0 > a1
 ·rw [if_pos c3] at H
  have c3b0 : decide (a1 < a0) = true := decide_eq_true c3
  clear c3
  obtain rfl := Option.some.inj H
  go_enter Try.func72, Try.ntmps72
  go_wp2
  go_ret
  exact ⟨by first | rfl | (simp; done) | (simp [*]; done), by repeat (first | exact Drawn0.refl _ | apply Drawn0.step)⟩
 ·rw [if_neg c3] at H
  have c3b0 : decide (a1 < a0) = false := decide_eq_false c3
  clear c3
  obtain rfl := Option.some.inj H
  go_enter Try.func72, Try.ntmps72
  go_wp2
  go_ret
  exact ⟨by first | rfl | (simp; done) | (simp [*]; done), by repeat (first | exact Drawn0.refl _ | apply Drawn0.step)⟩
end Go.Proofs.Ytmekkapacbdbeaa.P
namespace Go.Proofs.Ytmekkapacbdbeaa.P
open Go.RowKit Go.Proofs.YtmekkapacbdbeaaW.PrintWords Go.Proofs.YtmekkapacbdbeaaW.PrintLast Go.Proofs.YtmekkapacbdbeaaW.PrintMore
def whoOk (a : Int) : Bool := decide (0 ≤ a) && decide (a < 3)
section
variable {w : World} {v : Value} {s : St}
theorem spec_l5Copy_c (hv : StC w v s) (hs : Small s) : Calls Try.prog 50 #[v] w fun e w' => ∃ u, e = .returned u ∧ StR w' w.heap.size w'.heap.size u s ∧ Below w.heap.size w w' := by
 obtain ⟨A0, c0, A1, c1, A2, c2, A3, c3, A4, c4, rfl, g0, g1, g2, g3, g4⟩ := hv
 refine (spec_l5Copy.calls A0 c0 s.now A1 c1 s.sure A2 c2 s.last A3 c3 s.slast A4 c4 s.floors _ _ _ _ _ w g0.1 g0.2 g1.1 g1.2 g2.1 g2.2 g3.1 g3.2 g4.1 g4.2 (spec_l5Copy_eq hs)).mono ?_
 rintro e w' ⟨v0, v1, v2, v3, v4, he, r0, r1, r2, r3, r4, hb⟩
 exact ⟨_, he, StR.mk r0 r1 r2 r3 r4, hb⟩
theorem who_eq (a : Int) : impl_client.f a = some (whoOk a) := by
 unfold impl_client.f whoOk
 by_cases h : a ≥ 0
 ·rw [if_pos h, decide_eq_true (show 0 ≤ a from h), Bool.true_and]
 ·rw [if_neg h, decide_eq_false (show ¬ 0 ≤ a from h), Bool.false_and]
theorem spec_who_c {a : Int} {b : Bool} (h : whoOk a = b) : Calls Try.prog 71 #[.int .i64 a] w fun e w' => e = .returned (.bool b) ∧ Below w.heap.size w w' :=
 (spec_l4Who.calls a b w (h ▸ who_eq a)).mono fun _ _ ⟨e, h⟩ => ⟨e, h.below⟩
theorem spec_l1Max_c (x y : Int) {m : Int} (hm : (if x < y then y else x) = m) : Calls Try.prog 72 #[.int .i64 x, .int .i64 y] w fun e w' => e = .returned (.int .i64 m) ∧ Below w.heap.size w w' := by
 refine (spec_l1Max.calls x y m w ?_).mono fun _ _ ⟨e, h⟩ => ⟨e, h.below⟩
 unfold spec_l1Max.f
 rw [← hm]
 by_cases h : x > y
 ·rw [if_pos h, if_neg (by omega)]
 ·rw [if_neg h]
  by_cases h2 : x < y
  ·rw [if_pos h2]
  ·rw [if_neg h2]
   congr 1
   omega
end
end Go.Proofs.Ytmekkapacbdbeaa.P
namespace Go.Proofs.Ytmekkapacbdbeaa.P
open Go.RowKit Go.Proofs.YtmekkapacbdbeaaW.PrintWords Go.Proofs.YtmekkapacbdbeaaW.PrintLast Go.Proofs.YtmekkapacbdbeaaW.PrintMore
set_option linter.unusedVariables false
set_option linter.unusedSimpArgs false
set_option maxHeartbeats 8000000 in
set_option maxRecDepth 100000 in
theorem l5Bent_c {w0 w : World} {g m : Nat} (hB : Below w0.heap.size w0 w) (hR : Rd w0 w g (m + 2)) {v : Value} {s : St} {lo hi : Nat} (hv : StI w lo hi v s) (hf : g < lo ∨ hi ≤ g) (hhi : hi ≤ w.heap.size) (hs : Small s) (hz : Sized s) :
  Calls Try.prog 46 #[.pointer (some ⟨g, 0, none⟩), v] w fun e w' => ∃ u t, e = .returned u ∧ StI w' w.heap.size w'.heap.size u t ∧ Small t ∧ Sized t ∧ Rd w0 w' g m ∧ Below w0.heap.size w0 w' ∧ Kept w w' (fun k => g ≤ k ∧ k < g + 1) := by
 have HB0 := Ak hB
 have HG := Ak hR.lt
 have HG0 := Ak hR.ge
 have HRD := Ak hR
 have KP0 := Ak (Kept.refl w (fun k => g ≤ k ∧ k < g + 1))
 have HT0 := Ak (Nat.le_refl w.heap.size)
 clear hB hR
 have HV0 := Ak hv
 have HF := Ak hf
 have HHI := Ak hhi
 obtain ⟨A0_0, c0_0, A0_1, c0_1, A0_2, c0_2, A0_3, c0_3, A0_4, c0_4, rfl, _⟩ := hv.toC
 clear hv hf hhi
 have HS0 := Ak hs
 have HZ0 := Ak hz
 clear hs hz
 have hu26 := Try.underlying26
 go_enter Try.func46, Try.ntmps46
 go_wp2_with (first | ((with_reducible refine gate_dst (N := 3) rfl ?_); refine ev_box ?hg (N := 3) ?hd (cs := #[.slice A0_0 s.now.length c0_0, .slice A0_1 s.sure.length c0_1, .slice A0_2 s.last.length c0_2, .slice A0_3 s.slast.length c0_3, .slice A0_4 s.floors.length c0_4]) (t := 26) ?hr ?_; (case hd => rfl); (case hg => rfl); (case hr => first | (go_simp; done) | (go_simp; rfl)); intro g3 W1 HG4 BK2 HB3) | ((with_reducible refine gate_dst (N := 4) rfl ?_); refine ev_box ?hg (N := 4) ?hd (cs := #[.slice none 0 0, .slice none 0 0, .slice none 0 0, .slice none 0 0, .slice none 0 0]) (t := 26) ?hr ?_; (case hd => rfl); (case hg => rfl); (case hr => first | (go_simp; done) | (go_simp; rfl)); intro g4 W5 HG8 BK6 HB7) | ((with_reducible refine gate_dst (N := 6) rfl ?_); refine ev_load rfl (N := 6) rfl rfl (g := g3) rfl (cs := #[.slice A0_0 s.now.length c0_0, .slice A0_1 s.sure.length c0_1, .slice A0_2 s.last.length c0_2, .slice A0_3 s.slast.length c0_3, .slice A0_4 s.floors.length c0_4]) (Bk.below BK2.out HB7.out) hu26 rfl (by kernel_rfl) ?_))
 refine (spec_l5Copy_c (StI.toC (StI.below HV0.out (below_step HB3.out HB7.out))) HS0.out).mono ?_
 rintro e W12 ⟨u9, rfl, hr10, hb13⟩
 have HB14 := Ak hb13
 clear hb13
 have HRs11 := Ak hr10
 obtain ⟨as11_0, ds11_0, as11_1, ds11_1, as11_2, ds11_2, as11_3, ds11_3, as11_4, ds11_4, rfl, _⟩ := hr10.toC
 clear hr10
 go_wp2_with (first | ((with_reducible refine gate_dst (N := 5) rfl ?_); refine ev_box ?hg (N := 5) ?hd (cs := #[.slice none 0 0, .slice none 0 0, .slice none 0 0, .slice none 0 0, .slice none 0 0]) (t := 26) ?hr ?_; (case hd => rfl); (case hg => rfl); (case hr => first | (go_simp; done) | (go_simp; rfl)); intro g5 W15 HG18 BK16 HB17) | ((with_reducible refine gate_store (t := 26) (p := 5) rfl ?_); refine ev_put (by rfl) rfl rfl (g := g5) rfl (cs := #[.slice as11_0 s.now.length ds11_0, .slice as11_1 s.sure.length ds11_1, .slice as11_2 s.last.length ds11_2, .slice as11_3 s.slast.length ds11_3, .slice as11_4 s.floors.length ds11_4]) rfl BK16.out (by kernel_rfl) rfl rfl ?_; intro W19 BK20 HB21 HK22; have z0_ := HB0.out.size; have z1_ := HG.out; have z2_ := HG0.out; have z3_ := HF.out; have z4_ := HHI.out; have z5_ := HT0.out; have z6_ := HB3.out.size; have z7_ := HG4.out; have z8_ := BK2.out.lt; have z9_ := HB7.out.size; have z10_ := HG8.out; have z11_ := BK6.out.lt; have z12_ := HB14.out.size; have z13_ := HB17.out.size; have z14_ := HG18.out; have z15_ := BK16.out.lt; have C23 := Ak (show w.heap.size ≤ g3 ∧ g3 ≤ g3 + 1 from (by omega)); have C24 := Ak (show g3 + 1 ≤ g4 ∧ g4 ≤ g4 + 1 from (by omega)); have C25 := Ak (show g4 + 1 ≤ W5.heap.size ∧ W5.heap.size ≤ W12.heap.size from (by omega)); have C26 := Ak (show W12.heap.size ≤ g5 ∧ g5 ≤ g5 + 1 from (by omega)); have T27 := Ak (show g5 + 1 ≤ W15.heap.size from (by omega)); have HB28 := Ak (below_at (below_step HB0.out (below_step (below_step (below_step HB3.out HB7.out) HB14.out) HB17.out)) HB21.out (by show w0.heap.size ≤ g5; omega)); have HK29 := Ak (HK22.out); have KP31 := Ak (kept_new (Kept.below KP0.out (below_step (below_step (below_step HB3.out HB7.out) HB14.out) HB17.out)) HK29.out (by show w.heap.size ≤ g5; omega)); have T30 := Ak (Nat.le_trans T27.out HK29.out.1); have F32 := Ak (StI.kept (StI.below HV0.out (below_step (below_step (below_step HB3.out HB7.out) HB14.out) HB17.out)) HK29.out (fun k_ h_ => (by obtain ⟨h1_, h2_⟩ := h_; omega))); have F33 := Ak (Bk.kept (Bk.below BK2.out (below_step (below_step HB7.out HB14.out) HB17.out)) HK29.out (fun h_ => (by obtain ⟨h1_, h2_⟩ := h_; omega))); have F34 := Ak (Bk.kept (Bk.below BK6.out (below_step HB14.out HB17.out)) HK29.out (fun h_ => (by obtain ⟨h1_, h2_⟩ := h_; omega))); have F35 := Ak (StR.kept (StR.below HRs11.out HB17.out) HK29.out (fun k_ h_ => (by obtain ⟨h1_, h2_⟩ := h_; omega))); have F36 := Ak (BK20.out); have F37 := Ak (Rd.kept (Rd.below HRD.out (below_step (below_step (below_step HB3.out HB7.out) HB14.out) HB17.out)) HK29.out (fun h_ => (by obtain ⟨h1_, h2_⟩ := h_; omega))); clear z0_ z1_ z2_ z3_ z4_ z5_ z6_ z7_ z8_ z9_ z10_ z11_ z12_ z13_ z14_ z15_))
 refine (pick_c (m := m + 1) F37.out HB28.out (by omega)).mono ?_
 rintro e W44 ⟨r38, rfl, h39, h40, hR41, hb45, hk42⟩
 have z0_ := HB0.out.size
 have z1_ := HG.out
 have z2_ := HG0.out
 have z3_ := HF.out
 have z4_ := HHI.out
 have z5_ := C23.out
 have z6_ := C24.out
 have z7_ := C25.out
 have z8_ := C26.out
 have z9_ := T30.out
 have T47 := Ak (show g5 + 1 ≤ W19.heap.size from (by omega))
 have N48 := Ak (show ∀ k_, (g ≤ k_ ∧ k_ < g + 1) → k_ < lo ∨ hi ≤ k_ from (by intro k_ h_; omega))
 have N49 := Ak (show ¬ (g ≤ g3 ∧ g3 < g + 1) from (by omega))
 have N50 := Ak (show ¬ (g ≤ g4 ∧ g4 < g + 1) from (by omega))
 have N51 := Ak (show ∀ k_, (g ≤ k_ ∧ k_ < g + 1) → k_ < W5.heap.size ∨ W12.heap.size ≤ k_ from (by intro k_ h_; omega))
 have N52 := Ak (show ¬ (g ≤ g5 ∧ g5 < g + 1) from (by omega))
 have HB53 := Ak (hb45)
 have HK54 := Ak (hk42)
 have KP56 := Ak (Kept.then_ KP31.out HK54.out (fun _ h_ => Or.inl h_))
 have T55 := Ak (Nat.le_trans T47.out HK54.out.1)
 have F57 := Ak (StI.kept F32.out HK54.out N48.out)
 have F58 := Ak (Bk.kept F33.out HK54.out N49.out)
 have F59 := Ak (Bk.kept F34.out HK54.out N50.out)
 have F60 := Ak (StR.kept F35.out HK54.out N51.out)
 have F61 := Ak (Bk.kept F36.out HK54.out N52.out)
 have F62 := Ak (hR41)
 clear z0_ z1_ z2_ z3_ z4_ z5_ z6_ z7_ z8_ z9_ hb45 hk42 hR41
 have HP43 := Ak (And.intro h39 h40)
 clear h39 h40
 go_upto_block 0 with (fail)
 go_cut [] (fun W63 => ∃ (b0_ : Option Addr) (n0_ : Nat) (e0_ : Nat) (b1_ : Option Addr) (n1_ : Nat) (e1_ : Nat) (b2_ : Option Addr) (n2_ : Nat) (e2_ : Nat) (b3_ : Option Addr) (n3_ : Nat) (e3_ : Nat) (b4_ : Option Addr) (n4_ : Nat) (e4_ : Nat) (t_ : St), Aside0 (Bk W63 g3 #[.slice A0_0 s.now.length c0_0, .slice A0_1 s.sure.length c0_1, .slice A0_2 s.last.length c0_2, .slice A0_3 s.slast.length c0_3, .slice A0_4 s.floors.length c0_4] 26) ∧ Aside0 (Bk W63 g4 #[.slice none 0 0, .slice none 0 0, .slice none 0 0, .slice none 0 0, .slice none 0 0] 26) ∧ Aside0 (Bk W63 g5 #[.slice b0_ n0_ e0_, .slice b1_ n1_ e1_, .slice b2_ n2_ e2_, .slice b3_ n3_ e3_, .slice b4_ n4_ e4_] 26) ∧ Aside0 (StI W63 lo hi (.agg #[.slice A0_0 s.now.length c0_0, .slice A0_1 s.sure.length c0_1, .slice A0_2 s.last.length c0_2, .slice A0_3 s.slast.length c0_3, .slice A0_4 s.floors.length c0_4]) (s)) ∧ Aside0 (StI W63 W5.heap.size W12.heap.size (.agg #[.slice b0_ n0_ e0_, .slice b1_ n1_ e1_, .slice b2_ n2_ e2_, .slice b3_ n3_ e3_, .slice b4_ n4_ e4_]) (t_)) ∧ Aside0 (Rd w0 W63 g (m + 0)) ∧ Aside0 (Below w0.heap.size w0 W63) ∧ Aside0 (Kept w W63 (fun k => g ≤ k ∧ k < g + 1)) ∧ Aside0 (g5 + 1 ≤ W63.heap.size) ∧ Aside0 (Small t_) ∧ Aside0 (Sized t_))
 case first =>
  go_upto_if 10 with (fail)
  by_cases c64 : r38 = 0
  ·have d65 : (r38 == 0) = true := beq_iff_eq.mpr c64
   (first | rw [d65] | (simp only [i64_w, i32_w]; rw [d65]) | skip)
   have K66 := Ak c64
   clear c64
   go_upto_if 15 with (first | ((with_reducible refine gate_dst (N := 13) rfl ?_); refine ev_val (by rfl) (v := .slice as11_0 s.now.length ds11_0) ?hr ?_; (case hr => have hc_ : W44.cell? ⟨g5, 0, none⟩ = some (.slice as11_0 s.now.length ds11_0) := (Bk.cell F61.out 0).trans rfl; first | (go_simp; done) | (go_simp; rfl))))
   by_cases c67 : (s.now.length : Int) > 0
   ·have d68 : decide (0 < s.now.length) = true := decide_eq_true (by omega)
    (first | rw [d68] | (simp only [i64_w, i32_w]; rw [d68]) | skip)
    have K69 := Ak c67
    clear c67
    go_upto_region 5 with (fail)
    have HC1 := Ak (show 1 ≤ s.now.length from (by have i0_ := HP43.out; have i1_ := K66.out; have i2_ := K69.out; omega))
    obtain ⟨i0_, hi0_, _, hsz_, _⟩ := info_parts info9
    have hcut_ := cut_from (P := Try.prog) 23 9 .i64 Try.underlying23 hi0_ 1 hsz_ as11_0 s.now.length ds11_0 1 (by omega) (by have := HC1.out; omega)
    clear hi0_ hsz_
    obtain ⟨B_, hB_⟩ : ∃ B_, B_ = (if ds11_0 = (1 : Int).toNat then as11_0 else (as11_0 : Option Addr).map (·.add ((1 : Int).toNat * 1))) := ⟨_, rfl⟩
    obtain ⟨D_, hD_⟩ : ∃ D_, D_ = ds11_0 - (1 : Int).toNat := ⟨_, rfl⟩
    rw [← hB_, ← hD_] at hcut_
    have HBe := Ak hB_
    have HDe := Ak hD_
    clear hB_ hD_
    try go_wp2_with (first | ((with_reducible refine gate_dst (N := 17) rfl ?_); refine ev_val (by rfl) (v := .slice as11_0 s.now.length ds11_0) ?hr ?_; (case hr => have hc_ : W44.cell? ⟨g5, 0, none⟩ = some (.slice as11_0 s.now.length ds11_0) := (Bk.cell F61.out 0).trans rfl; first | (go_simp; done) | (go_simp; rfl))) | ((with_reducible refine gate_store (t := 23) (p := 19) rfl ?_); refine ev_setcell (by rfl) rfl (g := g5) (i := 0) (v := .slice B_ (s.now.length - 1) D_) ?hr ?_; (case hr => have hc_ : W44.cell? ⟨g5, 0, none⟩ = some (.slice as11_0 s.now.length ds11_0) := (Bk.cell F61.out 0).trans rfl; have hf_ := Bk.hot F61.out 0; first | (go_simp; done) | (go_simp; rfl)); intro W75 e76; have z0_ := HB0.out.size; have z1_ := HG.out; have z2_ := HG0.out; have z3_ := HF.out; have z4_ := HHI.out; have z5_ := C23.out; have z6_ := C24.out; have z7_ := C25.out; have z8_ := C26.out; have z9_ := T55.out; have T77 := Ak (show g5 + 1 ≤ W44.heap.size from (by omega)); have HB78 := Ak (below_at HB53.out (below_setcell e76) (by show w0.heap.size ≤ g5; omega)); have HK79 := Ak (kept_set e76); have KP81 := Ak (kept_new KP56.out HK79.out (by show w.heap.size ≤ g5; omega)); have T80 := Ak (Nat.le_trans T77.out HK79.out.1); have F82 := Ak (StI.kept F57.out HK79.out (fun k_ h_ => (by obtain ⟨h1_, h2_⟩ := h_; omega))); have F83 := Ak (Bk.kept F58.out HK79.out (fun h_ => (by obtain ⟨h1_, h2_⟩ := h_; omega))); have F84 := Ak (Bk.kept F59.out HK79.out (fun h_ => (by obtain ⟨h1_, h2_⟩ := h_; omega))); have F85 := Ak ((show StI W75 W5.heap.size W12.heap.size (.agg #[.slice B_ (s.now.length - 1) D_, .slice as11_1 s.sure.length ds11_1, .slice as11_2 s.last.length ds11_2, .slice as11_3 s.slast.length ds11_3, .slice as11_4 s.floors.length ds11_4]) { s with now := s.now.drop 1 } from by rw [HBe.out, HDe.out]; exact StI.drop (StR.toI (StR.kept F60.out HK79.out (fun k_ h_ => (by obtain ⟨h1_, h2_⟩ := h_; omega)))) HC1.out)); have F86 := Ak (Bk.put F61.out e76 rfl); have F87 := Ak (Rd.kept F62.out HK79.out (fun h_ => (by obtain ⟨h1_, h2_⟩ := h_; omega))); clear z0_ z1_ z2_ z3_ z4_ z5_ z6_ z7_ z8_ z9_ e76))
    go_meet
    case rel => exact ⟨_, _, _, _, _, _, _, _, _, _, _, _, _, _, _, { s with now := s.now.drop 1 }, ⟨F83.out⟩, ⟨F84.out⟩, ⟨F86.out⟩, ⟨F82.out⟩, ⟨F85.out⟩, ⟨Rd.less F87.out (by omega)⟩, ⟨HB78.out⟩, ⟨KP81.out⟩, ⟨(by show g5 + 1 ≤ W75.heap.size; have z0_ := HB0.out.size; have z1_ := HG.out; have z2_ := HG0.out; have z3_ := HF.out; have z4_ := HHI.out; have z5_ := C23.out; have z6_ := C24.out; have z7_ := C25.out; have z8_ := C26.out; have z9_ := T80.out; omega)⟩, ⟨(small_now HS0.out)⟩, ⟨(sized_now HZ0.out)⟩⟩
   ·have d68 : decide (0 < s.now.length) = false := decide_eq_false (by omega)
    (first | rw [d68] | (simp only [i64_w, i32_w]; rw [d68]) | skip)
    have K69 := Ak c67
    clear c67
    try go_wp2
    go_meet
    case rel => exact ⟨_, _, _, _, _, _, _, _, _, _, _, _, _, _, _, s, ⟨F58.out⟩, ⟨F59.out⟩, ⟨F61.out⟩, ⟨F57.out⟩, ⟨StR.toI F60.out⟩, ⟨Rd.less F62.out (by omega)⟩, ⟨HB53.out⟩, ⟨KP56.out⟩, ⟨(by show g5 + 1 ≤ W44.heap.size; have z0_ := HB0.out.size; have z1_ := HG.out; have z2_ := HG0.out; have z3_ := HF.out; have z4_ := HHI.out; have z5_ := C23.out; have z6_ := C24.out; have z7_ := C25.out; have z8_ := C26.out; have z9_ := T55.out; omega)⟩, ⟨HS0.out⟩, ⟨HZ0.out⟩⟩
  ·have d65 : (r38 == 0) = false := beq_eq_false_iff_ne.mpr c64
   (first | rw [d65] | (simp only [i64_w, i32_w]; rw [d65]) | skip)
   have K66 := Ak c64
   clear c64
   go_upto_if 20 with (fail)
   by_cases c88 : r38 = 1
   ·have d89 : (r38 == 1) = true := beq_iff_eq.mpr c88
    (first | rw [d89] | (simp only [i64_w, i32_w]; rw [d89]) | skip)
    have K90 := Ak c88
    clear c88
    go_upto_if 25 with (first | ((with_reducible refine gate_dst (N := 23) rfl ?_); refine ev_val (by rfl) (v := .slice as11_1 s.sure.length ds11_1) ?hr ?_; (case hr => have hc_ : W44.cell? ⟨g5, 1, none⟩ = some (.slice as11_1 s.sure.length ds11_1) := (Bk.cell F61.out 1).trans rfl; first | (go_simp; done) | (go_simp; rfl))))
    by_cases c91 : (s.sure.length : Int) > 0
    ·have d92 : decide (0 < s.sure.length) = true := decide_eq_true (by omega)
     (first | rw [d92] | (simp only [i64_w, i32_w]; rw [d92]) | skip)
     have K93 := Ak c91
     clear c91
     go_upto_region 8 with (fail)
     have HI94 := Ak (show (0 : Int) ≤ (0 : Int) ∧ (0 : Int) < ((s.sure).length : Int) from (by have i0_ := HP43.out; have i1_ := K66.out; have i2_ := K90.out; have i3_ := K93.out; exact ⟨by omega, by omega⟩))
     obtain ⟨g95, rfl⟩ := StR.sure_form F60.out HI94.out.1 HI94.out.2
     have qHI94 : (0 < (s.sure).length) = True := eq_true (by have := HI94.out.2; omega)
     have GT96 := Ak (And.intro (StR.sure_cell F60.out HI94.out.1 HI94.out.2).1 (StR.sure_cell F60.out HI94.out.1 HI94.out.2).2.1)
     try go_wp2_with (first | ((with_reducible refine gate_dst (N := 27) rfl ?_); refine ev_val (by rfl) (v := .slice (some ⟨g95, 0, none⟩) s.sure.length ds11_1) ?hr ?_; (case hr => have hc_ : W44.cell? ⟨g5, 1, none⟩ = some (.slice (some ⟨g95, 0, none⟩) s.sure.length ds11_1) := (Bk.cell F61.out 1).trans rfl; first | (go_simp; done) | (go_simp; rfl))) | ((with_reducible refine gate_store (t := 9) (p := 28) rfl ?_); refine ev_setcell (by rfl) rfl (g := g95) (i := (0 : Int).toNat) (v := .string ⟨#[65]⟩) ?hr ?_; (case hr => have hc_ := (show W44.cell? ⟨g95, 0, none⟩ = some (.string (rdOf ByteArray.empty s.sure (0 : Int))) from (StR.sure_cell F60.out HI94.out.1 HI94.out.2).2.2.1); have hf_ := (show W44.frozen? ⟨g95, 0, none⟩ = false from (StR.sure_cell F60.out HI94.out.1 HI94.out.2).2.2.2.1); first | (go_simp; done) | (go_simp; rfl)); intro W97 e98; have z0_ := HB0.out.size; have z1_ := HG.out; have z2_ := HG0.out; have z3_ := HF.out; have z4_ := HHI.out; have z5_ := C23.out; have z6_ := C24.out; have z7_ := C25.out; have z8_ := C26.out; have z9_ := T55.out; have z10_ := GT96.out; have T99 := Ak (show g5 + 1 ≤ W44.heap.size from (by omega)); have HB100 := Ak (below_at HB53.out (below_setcell e98) (by show w0.heap.size ≤ g95; omega)); have HK101 := Ak (kept_set e98); have KP103 := Ak (kept_new KP56.out HK101.out (by show w.heap.size ≤ g95; omega)); have T102 := Ak (Nat.le_trans T99.out HK101.out.1); have F104 := Ak (StI.kept F57.out HK101.out (fun k_ h_ => (by obtain ⟨h1_, h2_⟩ := h_; omega))); have F105 := Ak (Bk.kept F58.out HK101.out (fun h_ => (by obtain ⟨h1_, h2_⟩ := h_; omega))); have F106 := Ak (Bk.kept F59.out HK101.out (fun h_ => (by obtain ⟨h1_, h2_⟩ := h_; omega))); have F107 := Ak ((StR.sure_cell F60.out HI94.out.1 HI94.out.2).2.2.2.2 (⟨#[65]⟩) _ e98); have F108 := Ak (Bk.kept F61.out HK101.out (fun h_ => (by obtain ⟨h1_, h2_⟩ := h_; omega))); have F109 := Ak (Rd.kept F62.out HK101.out (fun h_ => (by obtain ⟨h1_, h2_⟩ := h_; omega))); clear z0_ z1_ z2_ z3_ z4_ z5_ z6_ z7_ z8_ z9_ z10_ e98))
     go_meet
     case rel => exact ⟨_, _, _, _, _, _, _, _, _, _, _, _, _, _, _, { s with sure := s.sure.set (0 : Int).toNat (⟨#[65]⟩) }, ⟨F105.out⟩, ⟨F106.out⟩, ⟨F108.out⟩, ⟨F104.out⟩, ⟨StR.toI F107.out⟩, ⟨Rd.less F109.out (by omega)⟩, ⟨HB100.out⟩, ⟨KP103.out⟩, ⟨(by show g5 + 1 ≤ W97.heap.size; have z0_ := HB0.out.size; have z1_ := HG.out; have z2_ := HG0.out; have z3_ := HF.out; have z4_ := HHI.out; have z5_ := C23.out; have z6_ := C24.out; have z7_ := C25.out; have z8_ := C26.out; have z9_ := GT96.out; have z10_ := T102.out; omega)⟩, ⟨(small_sure HS0.out)⟩, ⟨(sized_sure (by decide) HZ0.out)⟩⟩
    ·have d92 : decide (0 < s.sure.length) = false := decide_eq_false (by omega)
     (first | rw [d92] | (simp only [i64_w, i32_w]; rw [d92]) | skip)
     have K93 := Ak c91
     clear c91
     try go_wp2
     go_meet
     case rel => exact ⟨_, _, _, _, _, _, _, _, _, _, _, _, _, _, _, s, ⟨F58.out⟩, ⟨F59.out⟩, ⟨F61.out⟩, ⟨F57.out⟩, ⟨StR.toI F60.out⟩, ⟨Rd.less F62.out (by omega)⟩, ⟨HB53.out⟩, ⟨KP56.out⟩, ⟨(by show g5 + 1 ≤ W44.heap.size; have z0_ := HB0.out.size; have z1_ := HG.out; have z2_ := HG0.out; have z3_ := HF.out; have z4_ := HHI.out; have z5_ := C23.out; have z6_ := C24.out; have z7_ := C25.out; have z8_ := C26.out; have z9_ := T55.out; omega)⟩, ⟨HS0.out⟩, ⟨HZ0.out⟩⟩
   ·have d89 : (r38 == 1) = false := beq_eq_false_iff_ne.mpr c88
    (first | rw [d89] | (simp only [i64_w, i32_w]; rw [d89]) | skip)
    have K90 := Ak c88
    clear c88
    go_upto_if 29 with (fail)
    by_cases c110 : r38 = 2
    ·have d111 : (r38 == 2) = true := beq_iff_eq.mpr c110
     (first | rw [d111] | (simp only [i64_w, i32_w]; rw [d111]) | skip)
     have K112 := Ak c110
     clear c110
     go_upto_if 34 with (first | ((with_reducible refine gate_dst (N := 32) rfl ?_); refine ev_val (by rfl) (v := .slice as11_2 s.last.length ds11_2) ?hr ?_; (case hr => have hc_ : W44.cell? ⟨g5, 2, none⟩ = some (.slice as11_2 s.last.length ds11_2) := (Bk.cell F61.out 2).trans rfl; first | (go_simp; done) | (go_simp; rfl))))
     by_cases c113 : (s.last.length : Int) > 0
     ·have d114 : decide (0 < s.last.length) = true := decide_eq_true (by omega)
      (first | rw [d114] | (simp only [i64_w, i32_w]; rw [d114]) | skip)
      have K115 := Ak c113
      clear c113
      go_upto_region 11 with (fail)
      have HI116 := Ak (show (0 : Int) ≤ (0 : Int) ∧ (0 : Int) < ((s.last).length : Int) from (by have i0_ := HP43.out; have i1_ := K66.out; have i2_ := K90.out; have i3_ := K112.out; have i4_ := K115.out; exact ⟨by omega, by omega⟩))
      obtain ⟨g117, rfl⟩ := StR.last_form F60.out HI116.out.1 HI116.out.2
      have qHI116 : (0 < (s.last).length) = True := eq_true (by have := HI116.out.2; omega)
      have GT118 := Ak (And.intro (StR.last_cell F60.out HI116.out.1 HI116.out.2).1 (StR.last_cell F60.out HI116.out.1 HI116.out.2).2.1)
      go_wp2_with (fail)
      refine start_ (n := 7) (S := fun w' => Bk w' g5 #[.slice as11_0 s.now.length ds11_0, .slice as11_1 s.sure.length ds11_1, .slice (some ⟨g117, 0, none⟩) s.last.length ds11_2, .slice as11_3 s.slast.length ds11_3, .slice as11_4 s.floors.length ds11_4] 26) (ds := [6]) #[false, false, false, false, false, false, false] (by kernel_rfl) rfl rfl (show Bk W44 g5 #[.slice as11_0 s.now.length ds11_0, .slice as11_1 s.sure.length ds11_1, .slice (some ⟨g117, 0, none⟩) s.last.length ds11_2, .slice as11_3 s.slast.length ds11_3, .slice as11_4 s.floors.length ds11_4] 26 from F61.out) (fun hHeld => ?_)
      clear hHeld
      refine world_at (w := W44) (below_drew0 _) (fun W119 HB120 => ?_)
      refine pure_ (i := 0) (N := some 35) (v := ?_) (a' := ?_) #[true, false, false, false, false, false, false] rfl rfl (by kernel_rfl) (fun _ _ _ h => h) (Or.inl ⟨by rfl, ?_⟩) ?_ ?_
      rotate_left
      ·intro w'
       go_simp
       with_reducible rfl
      rotate_left
      ·simp only [Act.put, List.setIfInBounds_toArray, List.set_cons_zero, List.set_cons_succ, i64_w, i32_w]
       rfl
      refine take_ (i := 1) (N := some 36) (v := .slice (some ⟨g117, 0, none⟩) s.last.length ds11_2) (a' := ?_) #[true, true, false, false, false, false, false] rfl rfl (by kernel_rfl) (fun _ _ _ h => h) (Or.inl ⟨by rfl, ?_⟩) (Bk.below F61.out HB120.out) ?_ ?_
      ·rintro w' s0_
       have hc_ : w'.cell? ⟨g5, 2, none⟩ = some (.slice (some ⟨g117, 0, none⟩) s.last.length ds11_2) := (Bk.cell s0_ 2).trans rfl
       first | (go_simp; done) | (go_simp; with_reducible rfl) | (go_simp; rfl)
      rotate_left
      ·simp only [Act.put, List.setIfInBounds_toArray, List.set_cons_zero, List.set_cons_succ, i64_w, i32_w]
       rfl
      refine pure_ (i := 2) (N := some 37) (v := ?_) (a' := ?_) #[true, true, true, false, false, false, false] rfl rfl (by kernel_rfl) (fun _ _ _ h => h) (Or.inl ⟨by rfl, ?_⟩) ?_ ?_
      rotate_left
      ·intro w'
       go_simp
       with_reducible rfl
      rotate_left
      ·simp only [Act.put, List.setIfInBounds_toArray, List.set_cons_zero, List.set_cons_succ, i64_w, i32_w]
       rfl
      refine one_ (i := 3) (N := some 38) #[true, true, true, true, false, false, false] rfl rfl (by kernel_rfl) (by decide) (fun K hK => ?_)
      refine lit_step (Kd.int .i64) 3 (by rfl) (N := 38) rfl (xs := ([(-1), 1000, 1001] : List Int)) (inner := [.int .i64 (-1), .int .i64 1000, .int .i64 1001]) (by first | (go_simp; done) | (go_simp; rfl)) (reps_int ([(-1), 1000, 1001] : List Int)) (by simp) ?_
      intro A121 c122 W124 HL123 HB125
      refine hK.out _ _ (Bk.below F61.out (below_step HB120.out HB125.out)) (fun hHeld => ?_)
      clear hHeld hK K
      refine norm_ (a' := ?_) ?_ ?_
      rotate_left
      ·show Act.put _ (some 38) _ = _
       simp only [Act.put, List.setIfInBounds_toArray, List.set_cons_zero, List.set_cons_succ, i64_w, i32_w]
       rfl
      refine one_ (i := 4) (N := some 39) #[true, true, true, true, true, false, false] rfl rfl (by kernel_rfl) (by decide) (fun K hK => ?_)
      refine goes_ Try.func64 (by kernel_rfl) rfl #[.pointer (some ⟨g, 0, none⟩), .slice A121 ([(-1), 1000, 1001] : List Int).length c122] (by rfl) rfl rfl (by (try simp only [List.map_toArray, List.map_cons, List.map_nil]); first | done | rfl) ?_
      refine (num_c (m := m + 0) (Rd.below F62.out (below_step HB120.out HB125.out)) (below_step HB53.out (below_step HB120.out HB125.out)) HL123.out.1 HL123.out.2.1 (fun ad_ e_ h_ => (by have q_ := HL123.out.2.2 ad_ e_ h_; show ad_.block ≠ g; have z0_ := HB0.out.size; have z1_ := HG.out; have z2_ := HG0.out; have z3_ := HF.out; have z4_ := HHI.out; have z5_ := C23.out; have z6_ := C24.out; have z7_ := C25.out; have z8_ := C26.out; have z9_ := T55.out; have z10_ := GT118.out; have z11_ := HB120.out.size; have z12_ := HB125.out.size; omega)) (by decide)).mono ?_
      rintro e W131 ⟨r126, rfl, hm127, hR128, hb132, hk129⟩
      have z0_ := HB0.out.size
      have z1_ := HG.out
      have z2_ := HG0.out
      have z3_ := HF.out
      have z4_ := HHI.out
      have z5_ := C23.out
      have z6_ := C24.out
      have z7_ := C25.out
      have z8_ := C26.out
      have z9_ := T55.out
      have z10_ := GT118.out
      have z11_ := HB120.out.size
      have z12_ := HB125.out.size
      have T134 := Ak (show g5 + 1 ≤ W124.heap.size from (by omega))
      have HB135 := Ak (hb132)
      have HK136 := Ak (hk129)
      have KP138 := Ak (Kept.then_ (Kept.below KP56.out (below_step HB120.out HB125.out)) HK136.out (fun _ h_ => Or.inl h_))
      have T137 := Ak (Nat.le_trans T134.out HK136.out.1)
      have F139 := Ak (StI.kept (StI.below F57.out (below_step HB120.out HB125.out)) HK136.out N48.out)
      have F140 := Ak (Bk.kept (Bk.below F58.out (below_step HB120.out HB125.out)) HK136.out N49.out)
      have F141 := Ak (Bk.kept (Bk.below F59.out (below_step HB120.out HB125.out)) HK136.out N50.out)
      have F142 := Ak (StR.kept (StR.below F60.out (below_step HB120.out HB125.out)) HK136.out N51.out)
      have F143 := Ak (Bk.kept (Bk.below F61.out (below_step HB120.out HB125.out)) HK136.out N52.out)
      have F144 := Ak (hR128)
      clear z0_ z1_ z2_ z3_ z4_ z5_ z6_ z7_ z8_ z9_ z10_ z11_ z12_ hb132 hk129 hR128
      have HM130 := Ak hm127
      clear hm127
      refine ⟨_, rfl, ?_⟩
      refine hK.out _ _ F143.out (fun hHeld => ?_)
      clear hHeld hK K
      refine norm_ (a' := ?_) ?_ ?_
      rotate_left
      ·show Act.put _ (some 39) _ = _
       simp only [Act.put, List.setIfInBounds_toArray, List.set_cons_zero, List.set_cons_succ, i64_w, i32_w]
       rfl
      refine pure_ (i := 5) (N := some 40) (v := ?_) (a' := ?_) #[true, true, true, true, true, true, false] rfl rfl (by kernel_rfl) (fun _ _ _ h => h) (Or.inl ⟨by rfl, ?_⟩) ?_ ?_
      rotate_left
      ·intro w'
       go_simp
       with_reducible rfl
      rotate_left
      ·simp only [Act.put, List.setIfInBounds_toArray, List.set_cons_zero, List.set_cons_succ, i64_w, i32_w]
       rfl
      refine last_ (i := 6) (N := none) #[true, true, true, true, true, true, true] rfl rfl (by kernel_rfl) (by decide) (fun K hK => ?_)
      refine skip_ (w1 := W131.setCell ⟨g117, (0 : Int).toNat, none⟩ (.int .i64 r126)) (by rfl) rfl ?_ ?_
      ·have hc_ := (show W131.cell? ⟨g117, 0, none⟩ = some (.int .i64 (rd s.last (0 : Int))) from (StR.last_cell F142.out HI116.out.1 HI116.out.2).2.2.1)
       have hf_ := (show W131.frozen? ⟨g117, 0, none⟩ = false from (StR.last_cell F142.out HI116.out.1 HI116.out.2).2.2.2.1)
       first | (go_simp; done) | (go_simp; rfl)
      refine hK.out _ _ ?_
      clear hK K
      refine done_ (by kernel_rfl) ?_
      refine set_event (fun W145 e146 => ?_)
      have z0_ := HB0.out.size; have z1_ := HG.out; have z2_ := HG0.out; have z3_ := HF.out; have z4_ := HHI.out; have z5_ := C23.out; have z6_ := C24.out; have z7_ := C25.out; have z8_ := C26.out; have z9_ := GT118.out; have z10_ := T137.out; have T147 := Ak (show g5 + 1 ≤ W131.heap.size from (by omega)); have HB148 := Ak (below_at HB135.out (below_setcell e146) (by show w0.heap.size ≤ g117; omega)); have HK149 := Ak (kept_set e146); have KP151 := Ak (kept_new KP138.out HK149.out (by show w.heap.size ≤ g117; omega)); have T150 := Ak (Nat.le_trans T147.out HK149.out.1); have F152 := Ak (StI.kept F139.out HK149.out (fun k_ h_ => (by obtain ⟨h1_, h2_⟩ := h_; omega))); have F153 := Ak (Bk.kept F140.out HK149.out (fun h_ => (by obtain ⟨h1_, h2_⟩ := h_; omega))); have F154 := Ak (Bk.kept F141.out HK149.out (fun h_ => (by obtain ⟨h1_, h2_⟩ := h_; omega))); have F155 := Ak ((StR.last_cell F142.out HI116.out.1 HI116.out.2).2.2.2.2 (r126) _ e146); have F156 := Ak (Bk.kept F143.out HK149.out (fun h_ => (by obtain ⟨h1_, h2_⟩ := h_; omega))); have F157 := Ak (Rd.kept F144.out HK149.out (fun h_ => (by obtain ⟨h1_, h2_⟩ := h_; omega))); clear z0_ z1_ z2_ z3_ z4_ z5_ z6_ z7_ z8_ z9_ z10_ e146
      try go_wp2
      go_meet
      case rel => exact ⟨_, _, _, _, _, _, _, _, _, _, _, _, _, _, _, { s with last := s.last.set (0 : Int).toNat (r126) }, ⟨F153.out⟩, ⟨F154.out⟩, ⟨F156.out⟩, ⟨F152.out⟩, ⟨StR.toI F155.out⟩, ⟨Rd.less F157.out (by omega)⟩, ⟨HB148.out⟩, ⟨KP151.out⟩, ⟨(by show g5 + 1 ≤ W145.heap.size; have z0_ := HB0.out.size; have z1_ := HG.out; have z2_ := HG0.out; have z3_ := HF.out; have z4_ := HHI.out; have z5_ := C23.out; have z6_ := C24.out; have z7_ := C25.out; have z8_ := C26.out; have z9_ := GT118.out; have z10_ := T150.out; omega)⟩, ⟨(small_last HS0.out)⟩, ⟨HZ0.out⟩⟩
     ·have d114 : decide (0 < s.last.length) = false := decide_eq_false (by omega)
      (first | rw [d114] | (simp only [i64_w, i32_w]; rw [d114]) | skip)
      have K115 := Ak c113
      clear c113
      try go_wp2
      go_meet
      case rel => exact ⟨_, _, _, _, _, _, _, _, _, _, _, _, _, _, _, s, ⟨F58.out⟩, ⟨F59.out⟩, ⟨F61.out⟩, ⟨F57.out⟩, ⟨StR.toI F60.out⟩, ⟨Rd.less F62.out (by omega)⟩, ⟨HB53.out⟩, ⟨KP56.out⟩, ⟨(by show g5 + 1 ≤ W44.heap.size; have z0_ := HB0.out.size; have z1_ := HG.out; have z2_ := HG0.out; have z3_ := HF.out; have z4_ := HHI.out; have z5_ := C23.out; have z6_ := C24.out; have z7_ := C25.out; have z8_ := C26.out; have z9_ := T55.out; omega)⟩, ⟨HS0.out⟩, ⟨HZ0.out⟩⟩
    ·have d111 : (r38 == 2) = false := beq_eq_false_iff_ne.mpr c110
     (first | rw [d111] | (simp only [i64_w, i32_w]; rw [d111]) | skip)
     have K112 := Ak c110
     clear c110
     go_upto_if 41 with (fail)
     by_cases c158 : r38 = 3
     ·have d159 : (r38 == 3) = true := beq_iff_eq.mpr c158
      (first | rw [d159] | (simp only [i64_w, i32_w]; rw [d159]) | skip)
      have K160 := Ak c158
      clear c158
      go_upto_region 13 with (fail)
      by_cases c161 : (s.slast.length : Int) > 1
      ·have d162 : decide (1 < (s.slast.length : Int)) = true := decide_eq_true (by omega)
       (first | rw [d162] | (simp only [i64_w, i32_w]; rw [d162]) | skip)
       have K163 := Ak c161
       clear c161
       go_upto_if 52 with (first | ((with_reducible refine gate_dst (N := 44) rfl ?_); refine ev_val (by rfl) (v := .slice as11_3 s.slast.length ds11_3) ?hr ?_; (case hr => have hc_ : W44.cell? ⟨g5, 3, none⟩ = some (.slice as11_3 s.slast.length ds11_3) := (Bk.cell F61.out 3).trans rfl; first | (go_simp; done) | (go_simp; rfl))) | ((with_reducible refine gate_dst (N := 49) rfl ?_); refine ev_val (by rfl) (v := .slice as11_2 s.last.length ds11_2) ?hr ?_; (case hr => have hc_ : W44.cell? ⟨g5, 2, none⟩ = some (.slice as11_2 s.last.length ds11_2) := (Bk.cell F61.out 2).trans rfl; first | (go_simp; done) | (go_simp; rfl))))
       by_cases c164 : (s.last.length : Int) > 1
       ·have d165 : decide (1 < (s.last.length : Int)) = true := decide_eq_true (by omega)
        (first | rw [d165] | (simp only [i64_w, i32_w]; rw [d165]) | skip)
        have K166 := Ak c164
        clear c164
        go_upto_region 14 with (fail)
        have HI167 := Ak (show (0 : Int) ≤ (1 : Int) ∧ (1 : Int) < ((s.slast).length : Int) from (by have i0_ := HP43.out; have i1_ := K66.out; have i2_ := K90.out; have i3_ := K112.out; have i4_ := K160.out; have i5_ := K163.out; have i6_ := K166.out; exact ⟨by omega, by omega⟩))
        obtain ⟨g168, rfl⟩ := StR.slast_form F60.out HI167.out.1 HI167.out.2
        have qHI167 : (1 < ((s.slast).length : Int)) = True := eq_true (by have := HI167.out.2; omega)
        have GT169 := Ak (And.intro (StR.slast_cell F60.out HI167.out.1 HI167.out.2).1 (StR.slast_cell F60.out HI167.out.1 HI167.out.2).2.1)
        have HI170 := Ak (show (0 : Int) ≤ (1 : Int) ∧ (1 : Int) < ((s.last).length : Int) from (by have i0_ := HP43.out; have i1_ := K66.out; have i2_ := K90.out; have i3_ := K112.out; have i4_ := K160.out; have i5_ := K163.out; have i6_ := K166.out; exact ⟨by omega, by omega⟩))
        obtain ⟨g171, rfl⟩ := StR.last_form F60.out HI170.out.1 HI170.out.2
        have qHI170 : (1 < ((s.last).length : Int)) = True := eq_true (by have := HI170.out.2; omega)
        have GT172 := Ak (And.intro (StR.last_cell F60.out HI170.out.1 HI170.out.2).1 (StR.last_cell F60.out HI170.out.1 HI170.out.2).2.1)
        go_wp2_with (fail)
        refine start_ (n := 12) (S := fun w' => Bk w' g5 #[.slice as11_0 s.now.length ds11_0, .slice as11_1 s.sure.length ds11_1, .slice (some ⟨g171, 0, none⟩) s.last.length ds11_2, .slice (some ⟨g168, 0, none⟩) s.slast.length ds11_3, .slice as11_4 s.floors.length ds11_4] 26 ∧ w'.cell? ⟨g171, 1, none⟩ = some (.int .i64 (rd s.last (1 : Int)))) (ds := [11]) #[false, false, false, false, false, false, false, false, false, false, false, false] (by kernel_rfl) rfl rfl ⟨(show Bk W44 g5 #[.slice as11_0 s.now.length ds11_0, .slice as11_1 s.sure.length ds11_1, .slice (some ⟨g171, 0, none⟩) s.last.length ds11_2, .slice (some ⟨g168, 0, none⟩) s.slast.length ds11_3, .slice as11_4 s.floors.length ds11_4] 26 from F61.out), (show W44.cell? ⟨g171, 1, none⟩ = some (.int .i64 (rd s.last (1 : Int))) from (StR.last_cell F60.out HI170.out.1 HI170.out.2).2.2.1)⟩ (fun hHeld => ?_)
        clear hHeld
        refine world_at (w := W44) (below_drew0 _) (fun W173 HB174 => ?_)
        refine pure_ (i := 0) (N := some 53) (v := ?_) (a' := ?_) #[true, false, false, false, false, false, false, false, false, false, false, false] rfl rfl (by kernel_rfl) (fun _ _ _ h => h) (Or.inl ⟨by rfl, ?_⟩) ?_ ?_
        rotate_left
        ·intro w'
         go_simp
         with_reducible rfl
        rotate_left
        ·simp only [Act.put, List.setIfInBounds_toArray, List.set_cons_zero, List.set_cons_succ, i64_w, i32_w]
         rfl
        refine take_ (i := 1) (N := some 54) (v := .slice (some ⟨g168, 0, none⟩) s.slast.length ds11_3) (a' := ?_) #[true, true, false, false, false, false, false, false, false, false, false, false] rfl rfl (by kernel_rfl) (fun _ _ _ h => h) (Or.inl ⟨by rfl, ?_⟩) ⟨(Bk.below F61.out HB174.out), (show W173.cell? ⟨g171, 1, none⟩ = some (.int .i64 (rd s.last (1 : Int))) from (StR.last_cell (StR.below F60.out HB174.out) HI170.out.1 HI170.out.2).2.2.1)⟩ ?_ ?_
        ·rintro w' ⟨s0_, s1_⟩
         have hc_ : w'.cell? ⟨g5, 3, none⟩ = some (.slice (some ⟨g168, 0, none⟩) s.slast.length ds11_3) := (Bk.cell s0_ 3).trans rfl
         first | (go_simp; done) | (go_simp; with_reducible rfl) | (go_simp; rfl)
        rotate_left
        ·simp only [Act.put, List.setIfInBounds_toArray, List.set_cons_zero, List.set_cons_succ, i64_w, i32_w]
         rfl
        refine pure_ (i := 2) (N := some 55) (v := ?_) (a' := ?_) #[true, true, true, false, false, false, false, false, false, false, false, false] rfl rfl (by kernel_rfl) (fun _ _ _ h => h) (Or.inl ⟨by rfl, ?_⟩) ?_ ?_
        rotate_left
        ·intro w'
         go_simp
         with_reducible rfl
        rotate_left
        ·simp only [Act.put, List.setIfInBounds_toArray, List.set_cons_zero, List.set_cons_succ, i64_w, i32_w]
         rfl
        refine take_ (i := 3) (N := some 56) (v := .slice (some ⟨g171, 0, none⟩) s.last.length ds11_2) (a' := ?_) #[true, true, true, true, false, false, false, false, false, false, false, false] rfl rfl (by kernel_rfl) (fun _ _ _ h => h) (Or.inl ⟨by rfl, ?_⟩) ⟨(Bk.below F61.out HB174.out), (show W173.cell? ⟨g171, 1, none⟩ = some (.int .i64 (rd s.last (1 : Int))) from (StR.last_cell (StR.below F60.out HB174.out) HI170.out.1 HI170.out.2).2.2.1)⟩ ?_ ?_
        ·rintro w' ⟨s0_, s1_⟩
         have hc_ : w'.cell? ⟨g5, 2, none⟩ = some (.slice (some ⟨g171, 0, none⟩) s.last.length ds11_2) := (Bk.cell s0_ 2).trans rfl
         first | (go_simp; done) | (go_simp; with_reducible rfl) | (go_simp; rfl)
        rotate_left
        ·simp only [Act.put, List.setIfInBounds_toArray, List.set_cons_zero, List.set_cons_succ, i64_w, i32_w]
         rfl
        refine pure_ (i := 4) (N := some 57) (v := ?_) (a' := ?_) #[true, true, true, true, true, false, false, false, false, false, false, false] rfl rfl (by kernel_rfl) (fun _ _ _ h => h) (Or.inl ⟨by rfl, ?_⟩) ?_ ?_
        rotate_left
        ·intro w'
         go_simp
         with_reducible rfl
        rotate_left
        ·simp only [Act.put, List.setIfInBounds_toArray, List.set_cons_zero, List.set_cons_succ, i64_w, i32_w]
         rfl
        refine take_ (i := 5) (N := some 58) (v := .int .i64 (rd s.last (1 : Int))) (a' := ?_) #[true, true, true, true, true, true, false, false, false, false, false, false] rfl rfl (by kernel_rfl) (fun _ _ _ h => h) (Or.inl ⟨by rfl, ?_⟩) ⟨(Bk.below F61.out HB174.out), (show W173.cell? ⟨g171, 1, none⟩ = some (.int .i64 (rd s.last (1 : Int))) from (StR.last_cell (StR.below F60.out HB174.out) HI170.out.1 HI170.out.2).2.2.1)⟩ ?_ ?_
        ·rintro w' ⟨s0_, s1_⟩
         first | (go_simp; done) | (go_simp; with_reducible rfl) | (go_simp; rfl)
        rotate_left
        ·simp only [Act.put, List.setIfInBounds_toArray, List.set_cons_zero, List.set_cons_succ, i64_w, i32_w]
         rfl
        refine pure_ (i := 6) (N := some 59) (v := ?_) (a' := ?_) #[true, true, true, true, true, true, true, false, false, false, false, false] rfl rfl (by kernel_rfl) (fun _ _ _ h => h) (Or.inl ⟨by rfl, ?_⟩) ?_ ?_
        rotate_left
        ·intro w'
         go_simp
         with_reducible rfl
        rotate_left
        ·simp only [Act.put, List.setIfInBounds_toArray, List.set_cons_zero, List.set_cons_succ, i64_w, i32_w]
         rfl
        refine one_ (i := 7) (N := some 60) #[true, true, true, true, true, true, true, true, false, false, false, false] rfl rfl (by kernel_rfl) (by decide) (fun K hK => ?_)
        refine lit_step (Kd.int .i64) 3 (by rfl) (N := 60) rfl (xs := ([1, (-1)] : List Int)) (inner := [.int .i64 1, .int .i64 (-1)]) (by first | (go_simp; done) | (go_simp; rfl)) (reps_int ([1, (-1)] : List Int)) (by simp) ?_
        intro A175 c176 W178 HL177 HB179
        refine hK.out _ _ ⟨(Bk.below F61.out (below_step HB174.out HB179.out)), (show W178.cell? ⟨g171, 1, none⟩ = some (.int .i64 (rd s.last (1 : Int))) from (StR.last_cell (StR.below F60.out (below_step HB174.out HB179.out)) HI170.out.1 HI170.out.2).2.2.1)⟩ (fun hHeld => ?_)
        clear hHeld hK K
        refine norm_ (a' := ?_) ?_ ?_
        rotate_left
        ·show Act.put _ (some 60) _ = _
         simp only [Act.put, List.setIfInBounds_toArray, List.set_cons_zero, List.set_cons_succ, i64_w, i32_w]
         rfl
        refine one_ (i := 8) (N := some 61) #[true, true, true, true, true, true, true, true, true, false, false, false] rfl rfl (by kernel_rfl) (by decide) (fun K hK => ?_)
        refine goes_ Try.func64 (by kernel_rfl) rfl #[.pointer (some ⟨g, 0, none⟩), .slice A175 ([1, (-1)] : List Int).length c176] (by rfl) rfl rfl (by (try simp only [List.map_toArray, List.map_cons, List.map_nil]); first | done | rfl) ?_
        refine (num_c (m := m + 0) (Rd.below F62.out (below_step HB174.out HB179.out)) (below_step HB53.out (below_step HB174.out HB179.out)) HL177.out.1 HL177.out.2.1 (fun ad_ e_ h_ => (by have q_ := HL177.out.2.2 ad_ e_ h_; show ad_.block ≠ g; have z0_ := HB0.out.size; have z1_ := HG.out; have z2_ := HG0.out; have z3_ := HF.out; have z4_ := HHI.out; have z5_ := C23.out; have z6_ := C24.out; have z7_ := C25.out; have z8_ := C26.out; have z9_ := T55.out; have z10_ := GT169.out; have z11_ := GT172.out; have z12_ := HB174.out.size; have z13_ := HB179.out.size; omega)) (by decide)).mono ?_
        rintro e W185 ⟨r180, rfl, hm181, hR182, hb186, hk183⟩
        have z0_ := HB0.out.size
        have z1_ := HG.out
        have z2_ := HG0.out
        have z3_ := HF.out
        have z4_ := HHI.out
        have z5_ := C23.out
        have z6_ := C24.out
        have z7_ := C25.out
        have z8_ := C26.out
        have z9_ := T55.out
        have z10_ := GT169.out
        have z11_ := GT172.out
        have z12_ := HB174.out.size
        have z13_ := HB179.out.size
        have T188 := Ak (show g5 + 1 ≤ W178.heap.size from (by omega))
        have HB189 := Ak (hb186)
        have HK190 := Ak (hk183)
        have KP192 := Ak (Kept.then_ (Kept.below KP56.out (below_step HB174.out HB179.out)) HK190.out (fun _ h_ => Or.inl h_))
        have T191 := Ak (Nat.le_trans T188.out HK190.out.1)
        have F193 := Ak (StI.kept (StI.below F57.out (below_step HB174.out HB179.out)) HK190.out N48.out)
        have F194 := Ak (Bk.kept (Bk.below F58.out (below_step HB174.out HB179.out)) HK190.out N49.out)
        have F195 := Ak (Bk.kept (Bk.below F59.out (below_step HB174.out HB179.out)) HK190.out N50.out)
        have F196 := Ak (StR.kept (StR.below F60.out (below_step HB174.out HB179.out)) HK190.out N51.out)
        have F197 := Ak (Bk.kept (Bk.below F61.out (below_step HB174.out HB179.out)) HK190.out N52.out)
        have F198 := Ak (hR182)
        clear z0_ z1_ z2_ z3_ z4_ z5_ z6_ z7_ z8_ z9_ z10_ z11_ z12_ z13_ hb186 hk183 hR182
        have HM184 := Ak hm181
        clear hm181
        refine ⟨_, rfl, ?_⟩
        refine hK.out _ _ ⟨F197.out, (show W185.cell? ⟨g171, 1, none⟩ = some (.int .i64 (rd s.last (1 : Int))) from (StR.last_cell F196.out HI170.out.1 HI170.out.2).2.2.1)⟩ (fun hHeld => ?_)
        clear hHeld hK K
        refine norm_ (a' := ?_) ?_ ?_
        rotate_left
        ·show Act.put _ (some 61) _ = _
         simp only [Act.put, List.setIfInBounds_toArray, List.set_cons_zero, List.set_cons_succ, i64_w, i32_w]
         rfl
        refine pure_ (i := 9) (N := some 62) (v := ?_) (a' := ?_) #[true, true, true, true, true, true, true, true, true, true, false, false] rfl rfl (by kernel_rfl) (fun _ _ _ h => h) (Or.inl ⟨by rfl, ?_⟩) ?_ ?_
        rotate_left
        ·intro w'
         go_simp
         with_reducible rfl
        rotate_left
        ·simp only [Act.put, List.setIfInBounds_toArray, List.set_cons_zero, List.set_cons_succ, i64_w, i32_w]
         rfl
        refine pure_ (i := 10) (N := some 63) (v := ?_) (a' := ?_) #[true, true, true, true, true, true, true, true, true, true, true, false] rfl rfl (by kernel_rfl) (fun _ _ _ h => h) (Or.inl ⟨by rfl, ?_⟩) ?_ ?_
        rotate_left
        ·intro w'
         go_simp
         with_reducible rfl
        rotate_left
        ·simp only [Act.put, List.setIfInBounds_toArray, List.set_cons_zero, List.set_cons_succ, i64_w, i32_w]
         rfl
        refine last_ (i := 11) (N := none) #[true, true, true, true, true, true, true, true, true, true, true, true] rfl rfl (by kernel_rfl) (by decide) (fun K hK => ?_)
        refine skip_ (w1 := W185.setCell ⟨g168, (1 : Int).toNat, none⟩ (.int .i64 (wrap64 ((rd s.last (1 : Int)) + r180)))) (by rfl) rfl ?_ ?_
        ·have hc_ := (show W185.cell? ⟨g168, 1, none⟩ = some (.int .i64 (rd s.slast (1 : Int))) from (StR.slast_cell F196.out HI167.out.1 HI167.out.2).2.2.1)
         have hf_ := (show W185.frozen? ⟨g168, 1, none⟩ = false from (StR.slast_cell F196.out HI167.out.1 HI167.out.2).2.2.2.1)
         first | (go_simp; done) | (go_simp; rfl)
        refine hK.out _ _ ?_
        clear hK K
        refine done_ (by kernel_rfl) ?_
        refine set_event (fun W199 e200 => ?_)
        have z0_ := HB0.out.size; have z1_ := HG.out; have z2_ := HG0.out; have z3_ := HF.out; have z4_ := HHI.out; have z5_ := C23.out; have z6_ := C24.out; have z7_ := C25.out; have z8_ := C26.out; have z9_ := GT169.out; have z10_ := GT172.out; have z11_ := T191.out; have T201 := Ak (show g5 + 1 ≤ W185.heap.size from (by omega)); have HB202 := Ak (below_at HB189.out (below_setcell e200) (by show w0.heap.size ≤ g168; omega)); have HK203 := Ak (kept_set e200); have KP205 := Ak (kept_new KP192.out HK203.out (by show w.heap.size ≤ g168; omega)); have T204 := Ak (Nat.le_trans T201.out HK203.out.1); have F206 := Ak (StI.kept F193.out HK203.out (fun k_ h_ => (by obtain ⟨h1_, h2_⟩ := h_; omega))); have F207 := Ak (Bk.kept F194.out HK203.out (fun h_ => (by obtain ⟨h1_, h2_⟩ := h_; omega))); have F208 := Ak (Bk.kept F195.out HK203.out (fun h_ => (by obtain ⟨h1_, h2_⟩ := h_; omega))); have F209 := Ak ((StR.slast_cell F196.out HI167.out.1 HI167.out.2).2.2.2.2 ((wrap64 ((rd s.last (1 : Int)) + r180))) _ e200); have F210 := Ak (Bk.kept F197.out HK203.out (fun h_ => (by obtain ⟨h1_, h2_⟩ := h_; omega))); have F211 := Ak (Rd.kept F198.out HK203.out (fun h_ => (by obtain ⟨h1_, h2_⟩ := h_; omega))); clear z0_ z1_ z2_ z3_ z4_ z5_ z6_ z7_ z8_ z9_ z10_ z11_ e200
        try go_wp2
        go_meet
        case rel => exact ⟨_, _, _, _, _, _, _, _, _, _, _, _, _, _, _, { s with slast := s.slast.set (1 : Int).toNat ((wrap64 ((rd s.last (1 : Int)) + r180))) }, ⟨F207.out⟩, ⟨F208.out⟩, ⟨F210.out⟩, ⟨F206.out⟩, ⟨StR.toI F209.out⟩, ⟨Rd.less F211.out (by omega)⟩, ⟨HB202.out⟩, ⟨KP205.out⟩, ⟨(by show g5 + 1 ≤ W199.heap.size; have z0_ := HB0.out.size; have z1_ := HG.out; have z2_ := HG0.out; have z3_ := HF.out; have z4_ := HHI.out; have z5_ := C23.out; have z6_ := C24.out; have z7_ := C25.out; have z8_ := C26.out; have z9_ := GT169.out; have z10_ := GT172.out; have z11_ := T204.out; omega)⟩, ⟨(small_slast HS0.out)⟩, ⟨HZ0.out⟩⟩
       ·have d165 : decide (1 < (s.last.length : Int)) = false := decide_eq_false (by omega)
        (first | rw [d165] | (simp only [i64_w, i32_w]; rw [d165]) | skip)
        have K166 := Ak c164
        clear c164
        try go_wp2
        go_meet
        case rel => exact ⟨_, _, _, _, _, _, _, _, _, _, _, _, _, _, _, s, ⟨F58.out⟩, ⟨F59.out⟩, ⟨F61.out⟩, ⟨F57.out⟩, ⟨StR.toI F60.out⟩, ⟨Rd.less F62.out (by omega)⟩, ⟨HB53.out⟩, ⟨KP56.out⟩, ⟨(by show g5 + 1 ≤ W44.heap.size; have z0_ := HB0.out.size; have z1_ := HG.out; have z2_ := HG0.out; have z3_ := HF.out; have z4_ := HHI.out; have z5_ := C23.out; have z6_ := C24.out; have z7_ := C25.out; have z8_ := C26.out; have z9_ := T55.out; omega)⟩, ⟨HS0.out⟩, ⟨HZ0.out⟩⟩
      ·have d162 : decide (1 < (s.slast.length : Int)) = false := decide_eq_false (by omega)
       (first | rw [d162] | (simp only [i64_w, i32_w]; rw [d162]) | skip)
       have K163 := Ak c161
       clear c161
       try go_wp2_with (first | ((with_reducible refine gate_dst (N := 44) rfl ?_); refine ev_val (by rfl) (v := .slice as11_3 s.slast.length ds11_3) ?hr ?_; (case hr => have hc_ : W44.cell? ⟨g5, 3, none⟩ = some (.slice as11_3 s.slast.length ds11_3) := (Bk.cell F61.out 3).trans rfl; first | (go_simp; done) | (go_simp; rfl))))
       go_meet
       case rel => exact ⟨_, _, _, _, _, _, _, _, _, _, _, _, _, _, _, s, ⟨F58.out⟩, ⟨F59.out⟩, ⟨F61.out⟩, ⟨F57.out⟩, ⟨StR.toI F60.out⟩, ⟨Rd.less F62.out (by omega)⟩, ⟨HB53.out⟩, ⟨KP56.out⟩, ⟨(by show g5 + 1 ≤ W44.heap.size; have z0_ := HB0.out.size; have z1_ := HG.out; have z2_ := HG0.out; have z3_ := HF.out; have z4_ := HHI.out; have z5_ := C23.out; have z6_ := C24.out; have z7_ := C25.out; have z8_ := C26.out; have z9_ := T55.out; omega)⟩, ⟨HS0.out⟩, ⟨HZ0.out⟩⟩
     ·have d159 : (r38 == 3) = false := beq_eq_false_iff_ne.mpr c158
      (first | rw [d159] | (simp only [i64_w, i32_w]; rw [d159]) | skip)
      have K160 := Ak c158
      clear c158
      go_upto_if 64 with (fail)
      by_cases c212 : r38 = 4
      ·have d213 : (r38 == 4) = true := beq_iff_eq.mpr c212
       (first | rw [d213] | (simp only [i64_w, i32_w]; rw [d213]) | skip)
       have K214 := Ak c212
       clear c212
       go_upto_if 69 with (first | ((with_reducible refine gate_dst (N := 67) rfl ?_); refine ev_val (by rfl) (v := .slice as11_4 s.floors.length ds11_4) ?hr ?_; (case hr => have hc_ : W44.cell? ⟨g5, 4, none⟩ = some (.slice as11_4 s.floors.length ds11_4) := (Bk.cell F61.out 4).trans rfl; first | (go_simp; done) | (go_simp; rfl))))
       by_cases c215 : (s.floors.length : Int) > 0
       ·have d216 : decide (0 < s.floors.length) = true := decide_eq_true (by omega)
        (first | rw [d216] | (simp only [i64_w, i32_w]; rw [d216]) | skip)
        have K217 := Ak c215
        clear c215
        go_upto_region 17 with (fail)
        have HI218 := Ak (show (0 : Int) ≤ (0 : Int) ∧ (0 : Int) < ((s.floors).length : Int) from (by have i0_ := HP43.out; have i1_ := K66.out; have i2_ := K90.out; have i3_ := K112.out; have i4_ := K160.out; have i5_ := K214.out; have i6_ := K217.out; exact ⟨by omega, by omega⟩))
        obtain ⟨g219, rfl⟩ := StR.floors_form F60.out HI218.out.1 HI218.out.2
        have qHI218 : (0 < (s.floors).length) = True := eq_true (by have := HI218.out.2; omega)
        have GT220 := Ak (And.intro (StR.floors_cell F60.out HI218.out.1 HI218.out.2).1 (StR.floors_cell F60.out HI218.out.1 HI218.out.2).2.1)
        go_wp2_with (fail)
        refine start_ (n := 7) (S := fun w' => Bk w' g5 #[.slice as11_0 s.now.length ds11_0, .slice as11_1 s.sure.length ds11_1, .slice as11_2 s.last.length ds11_2, .slice as11_3 s.slast.length ds11_3, .slice (some ⟨g219, 0, none⟩) s.floors.length ds11_4] 26) (ds := [6]) #[false, false, false, false, false, false, false] (by kernel_rfl) rfl rfl (show Bk W44 g5 #[.slice as11_0 s.now.length ds11_0, .slice as11_1 s.sure.length ds11_1, .slice as11_2 s.last.length ds11_2, .slice as11_3 s.slast.length ds11_3, .slice (some ⟨g219, 0, none⟩) s.floors.length ds11_4] 26 from F61.out) (fun hHeld => ?_)
        clear hHeld
        refine world_at (w := W44) (below_drew0 _) (fun W221 HB222 => ?_)
        refine pure_ (i := 0) (N := some 70) (v := ?_) (a' := ?_) #[true, false, false, false, false, false, false] rfl rfl (by kernel_rfl) (fun _ _ _ h => h) (Or.inl ⟨by rfl, ?_⟩) ?_ ?_
        rotate_left
        ·intro w'
         go_simp
         with_reducible rfl
        rotate_left
        ·simp only [Act.put, List.setIfInBounds_toArray, List.set_cons_zero, List.set_cons_succ, i64_w, i32_w]
         rfl
        refine take_ (i := 1) (N := some 71) (v := .slice (some ⟨g219, 0, none⟩) s.floors.length ds11_4) (a' := ?_) #[true, true, false, false, false, false, false] rfl rfl (by kernel_rfl) (fun _ _ _ h => h) (Or.inl ⟨by rfl, ?_⟩) (Bk.below F61.out HB222.out) ?_ ?_
        ·rintro w' s0_
         have hc_ : w'.cell? ⟨g5, 4, none⟩ = some (.slice (some ⟨g219, 0, none⟩) s.floors.length ds11_4) := (Bk.cell s0_ 4).trans rfl
         first | (go_simp; done) | (go_simp; with_reducible rfl) | (go_simp; rfl)
        rotate_left
        ·simp only [Act.put, List.setIfInBounds_toArray, List.set_cons_zero, List.set_cons_succ, i64_w, i32_w]
         rfl
        refine pure_ (i := 2) (N := some 72) (v := ?_) (a' := ?_) #[true, true, true, false, false, false, false] rfl rfl (by kernel_rfl) (fun _ _ _ h => h) (Or.inl ⟨by rfl, ?_⟩) ?_ ?_
        rotate_left
        ·intro w'
         go_simp
         with_reducible rfl
        rotate_left
        ·simp only [Act.put, List.setIfInBounds_toArray, List.set_cons_zero, List.set_cons_succ, i64_w, i32_w]
         rfl
        refine one_ (i := 3) (N := some 73) #[true, true, true, true, false, false, false] rfl rfl (by kernel_rfl) (by decide) (fun K hK => ?_)
        refine lit_step (Kd.int .i64) 3 (by rfl) (N := 73) rfl (xs := ([(-1), 100, 101] : List Int)) (inner := [.int .i64 (-1), .int .i64 100, .int .i64 101]) (by first | (go_simp; done) | (go_simp; rfl)) (reps_int ([(-1), 100, 101] : List Int)) (by simp) ?_
        intro A223 c224 W226 HL225 HB227
        refine hK.out _ _ (Bk.below F61.out (below_step HB222.out HB227.out)) (fun hHeld => ?_)
        clear hHeld hK K
        refine norm_ (a' := ?_) ?_ ?_
        rotate_left
        ·show Act.put _ (some 73) _ = _
         simp only [Act.put, List.setIfInBounds_toArray, List.set_cons_zero, List.set_cons_succ, i64_w, i32_w]
         rfl
        refine one_ (i := 4) (N := some 74) #[true, true, true, true, true, false, false] rfl rfl (by kernel_rfl) (by decide) (fun K hK => ?_)
        refine goes_ Try.func64 (by kernel_rfl) rfl #[.pointer (some ⟨g, 0, none⟩), .slice A223 ([(-1), 100, 101] : List Int).length c224] (by rfl) rfl rfl (by (try simp only [List.map_toArray, List.map_cons, List.map_nil]); first | done | rfl) ?_
        refine (num_c (m := m + 0) (Rd.below F62.out (below_step HB222.out HB227.out)) (below_step HB53.out (below_step HB222.out HB227.out)) HL225.out.1 HL225.out.2.1 (fun ad_ e_ h_ => (by have q_ := HL225.out.2.2 ad_ e_ h_; show ad_.block ≠ g; have z0_ := HB0.out.size; have z1_ := HG.out; have z2_ := HG0.out; have z3_ := HF.out; have z4_ := HHI.out; have z5_ := C23.out; have z6_ := C24.out; have z7_ := C25.out; have z8_ := C26.out; have z9_ := T55.out; have z10_ := GT220.out; have z11_ := HB222.out.size; have z12_ := HB227.out.size; omega)) (by decide)).mono ?_
        rintro e W233 ⟨r228, rfl, hm229, hR230, hb234, hk231⟩
        have z0_ := HB0.out.size
        have z1_ := HG.out
        have z2_ := HG0.out
        have z3_ := HF.out
        have z4_ := HHI.out
        have z5_ := C23.out
        have z6_ := C24.out
        have z7_ := C25.out
        have z8_ := C26.out
        have z9_ := T55.out
        have z10_ := GT220.out
        have z11_ := HB222.out.size
        have z12_ := HB227.out.size
        have T236 := Ak (show g5 + 1 ≤ W226.heap.size from (by omega))
        have HB237 := Ak (hb234)
        have HK238 := Ak (hk231)
        have KP240 := Ak (Kept.then_ (Kept.below KP56.out (below_step HB222.out HB227.out)) HK238.out (fun _ h_ => Or.inl h_))
        have T239 := Ak (Nat.le_trans T236.out HK238.out.1)
        have F241 := Ak (StI.kept (StI.below F57.out (below_step HB222.out HB227.out)) HK238.out N48.out)
        have F242 := Ak (Bk.kept (Bk.below F58.out (below_step HB222.out HB227.out)) HK238.out N49.out)
        have F243 := Ak (Bk.kept (Bk.below F59.out (below_step HB222.out HB227.out)) HK238.out N50.out)
        have F244 := Ak (StR.kept (StR.below F60.out (below_step HB222.out HB227.out)) HK238.out N51.out)
        have F245 := Ak (Bk.kept (Bk.below F61.out (below_step HB222.out HB227.out)) HK238.out N52.out)
        have F246 := Ak (hR230)
        clear z0_ z1_ z2_ z3_ z4_ z5_ z6_ z7_ z8_ z9_ z10_ z11_ z12_ hb234 hk231 hR230
        have HM232 := Ak hm229
        clear hm229
        refine ⟨_, rfl, ?_⟩
        refine hK.out _ _ F245.out (fun hHeld => ?_)
        clear hHeld hK K
        refine norm_ (a' := ?_) ?_ ?_
        rotate_left
        ·show Act.put _ (some 74) _ = _
         simp only [Act.put, List.setIfInBounds_toArray, List.set_cons_zero, List.set_cons_succ, i64_w, i32_w]
         rfl
        refine pure_ (i := 5) (N := some 75) (v := ?_) (a' := ?_) #[true, true, true, true, true, true, false] rfl rfl (by kernel_rfl) (fun _ _ _ h => h) (Or.inl ⟨by rfl, ?_⟩) ?_ ?_
        rotate_left
        ·intro w'
         go_simp
         with_reducible rfl
        rotate_left
        ·simp only [Act.put, List.setIfInBounds_toArray, List.set_cons_zero, List.set_cons_succ, i64_w, i32_w]
         rfl
        refine last_ (i := 6) (N := none) #[true, true, true, true, true, true, true] rfl rfl (by kernel_rfl) (by decide) (fun K hK => ?_)
        refine skip_ (w1 := W233.setCell ⟨g219, (0 : Int).toNat, none⟩ (.int .i64 r228)) (by rfl) rfl ?_ ?_
        ·have hc_ := (show W233.cell? ⟨g219, 0, none⟩ = some (.int .i64 (rd s.floors (0 : Int))) from (StR.floors_cell F244.out HI218.out.1 HI218.out.2).2.2.1)
         have hf_ := (show W233.frozen? ⟨g219, 0, none⟩ = false from (StR.floors_cell F244.out HI218.out.1 HI218.out.2).2.2.2.1)
         first | (go_simp; done) | (go_simp; rfl)
        refine hK.out _ _ ?_
        clear hK K
        refine done_ (by kernel_rfl) ?_
        refine set_event (fun W247 e248 => ?_)
        have z0_ := HB0.out.size; have z1_ := HG.out; have z2_ := HG0.out; have z3_ := HF.out; have z4_ := HHI.out; have z5_ := C23.out; have z6_ := C24.out; have z7_ := C25.out; have z8_ := C26.out; have z9_ := GT220.out; have z10_ := T239.out; have T249 := Ak (show g5 + 1 ≤ W233.heap.size from (by omega)); have HB250 := Ak (below_at HB237.out (below_setcell e248) (by show w0.heap.size ≤ g219; omega)); have HK251 := Ak (kept_set e248); have KP253 := Ak (kept_new KP240.out HK251.out (by show w.heap.size ≤ g219; omega)); have T252 := Ak (Nat.le_trans T249.out HK251.out.1); have F254 := Ak (StI.kept F241.out HK251.out (fun k_ h_ => (by obtain ⟨h1_, h2_⟩ := h_; omega))); have F255 := Ak (Bk.kept F242.out HK251.out (fun h_ => (by obtain ⟨h1_, h2_⟩ := h_; omega))); have F256 := Ak (Bk.kept F243.out HK251.out (fun h_ => (by obtain ⟨h1_, h2_⟩ := h_; omega))); have F257 := Ak ((StR.floors_cell F244.out HI218.out.1 HI218.out.2).2.2.2.2 (r228) _ e248); have F258 := Ak (Bk.kept F245.out HK251.out (fun h_ => (by obtain ⟨h1_, h2_⟩ := h_; omega))); have F259 := Ak (Rd.kept F246.out HK251.out (fun h_ => (by obtain ⟨h1_, h2_⟩ := h_; omega))); clear z0_ z1_ z2_ z3_ z4_ z5_ z6_ z7_ z8_ z9_ z10_ e248
        try go_wp2
        go_meet
        case rel => exact ⟨_, _, _, _, _, _, _, _, _, _, _, _, _, _, _, { s with floors := s.floors.set (0 : Int).toNat (r228) }, ⟨F255.out⟩, ⟨F256.out⟩, ⟨F258.out⟩, ⟨F254.out⟩, ⟨StR.toI F257.out⟩, ⟨Rd.less F259.out (by omega)⟩, ⟨HB250.out⟩, ⟨KP253.out⟩, ⟨(by show g5 + 1 ≤ W247.heap.size; have z0_ := HB0.out.size; have z1_ := HG.out; have z2_ := HG0.out; have z3_ := HF.out; have z4_ := HHI.out; have z5_ := C23.out; have z6_ := C24.out; have z7_ := C25.out; have z8_ := C26.out; have z9_ := GT220.out; have z10_ := T252.out; omega)⟩, ⟨(small_floors HS0.out)⟩, ⟨HZ0.out⟩⟩
       ·have d216 : decide (0 < s.floors.length) = false := decide_eq_false (by omega)
        (first | rw [d216] | (simp only [i64_w, i32_w]; rw [d216]) | skip)
        have K217 := Ak c215
        clear c215
        try go_wp2
        go_meet
        case rel => exact ⟨_, _, _, _, _, _, _, _, _, _, _, _, _, _, _, s, ⟨F58.out⟩, ⟨F59.out⟩, ⟨F61.out⟩, ⟨F57.out⟩, ⟨StR.toI F60.out⟩, ⟨Rd.less F62.out (by omega)⟩, ⟨HB53.out⟩, ⟨KP56.out⟩, ⟨(by show g5 + 1 ≤ W44.heap.size; have z0_ := HB0.out.size; have z1_ := HG.out; have z2_ := HG0.out; have z3_ := HF.out; have z4_ := HHI.out; have z5_ := C23.out; have z6_ := C24.out; have z7_ := C25.out; have z8_ := C26.out; have z9_ := T55.out; omega)⟩, ⟨HS0.out⟩, ⟨HZ0.out⟩⟩
      ·have d213 : (r38 == 4) = false := beq_eq_false_iff_ne.mpr c212
       (first | rw [d213] | (simp only [i64_w, i32_w]; rw [d213]) | skip)
       have K214 := Ak c212
       clear c212
       go_upto_if 76 with (fail)
       by_cases c260 : r38 = 5
       ·have d261 : (r38 == 5) = true := beq_iff_eq.mpr c260
        (first | rw [d261] | (simp only [i64_w, i32_w]; rw [d261]) | skip)
        have K262 := Ak c260
        clear c260
        try go_wp2_with (first | ((with_reducible refine gate_store (t := 24) (p := 78) rfl ?_); refine ev_setcell (by rfl) rfl (g := g5) (i := 4) (v := .slice none 0 0) ?hr ?_; (case hr => have hc_ : W44.cell? ⟨g5, 4, none⟩ = some (.slice as11_4 s.floors.length ds11_4) := (Bk.cell F61.out 4).trans rfl; have hf_ := Bk.hot F61.out 4; first | (go_simp; done) | (go_simp; rfl)); intro W263 e264; have z0_ := HB0.out.size; have z1_ := HG.out; have z2_ := HG0.out; have z3_ := HF.out; have z4_ := HHI.out; have z5_ := C23.out; have z6_ := C24.out; have z7_ := C25.out; have z8_ := C26.out; have z9_ := T55.out; have T265 := Ak (show g5 + 1 ≤ W44.heap.size from (by omega)); have HB266 := Ak (below_at HB53.out (below_setcell e264) (by show w0.heap.size ≤ g5; omega)); have HK267 := Ak (kept_set e264); have KP269 := Ak (kept_new KP56.out HK267.out (by show w.heap.size ≤ g5; omega)); have T268 := Ak (Nat.le_trans T265.out HK267.out.1); have F270 := Ak (StI.kept F57.out HK267.out (fun k_ h_ => (by obtain ⟨h1_, h2_⟩ := h_; omega))); have F271 := Ak (Bk.kept F58.out HK267.out (fun h_ => (by obtain ⟨h1_, h2_⟩ := h_; omega))); have F272 := Ak (Bk.kept F59.out HK267.out (fun h_ => (by obtain ⟨h1_, h2_⟩ := h_; omega))); have F273 := Ak (StR.nil_floors (StR.kept F60.out HK267.out (fun k_ h_ => (by obtain ⟨h1_, h2_⟩ := h_; omega)))); have F274 := Ak (Bk.put F61.out e264 rfl); have F275 := Ak (Rd.kept F62.out HK267.out (fun h_ => (by obtain ⟨h1_, h2_⟩ := h_; omega))); clear z0_ z1_ z2_ z3_ z4_ z5_ z6_ z7_ z8_ z9_ e264))
        go_meet
        case rel => exact ⟨_, _, _, _, _, _, _, _, _, _, _, _, _, _, _, { s with floors := [] }, ⟨F271.out⟩, ⟨F272.out⟩, ⟨F274.out⟩, ⟨F270.out⟩, ⟨StR.toI F273.out⟩, ⟨Rd.less F275.out (by omega)⟩, ⟨HB266.out⟩, ⟨KP269.out⟩, ⟨(by show g5 + 1 ≤ W263.heap.size; have z0_ := HB0.out.size; have z1_ := HG.out; have z2_ := HG0.out; have z3_ := HF.out; have z4_ := HHI.out; have z5_ := C23.out; have z6_ := C24.out; have z7_ := C25.out; have z8_ := C26.out; have z9_ := T268.out; omega)⟩, ⟨(small_nil HS0.out)⟩, ⟨HZ0.out⟩⟩
       ·have d261 : (r38 == 5) = false := beq_eq_false_iff_ne.mpr c260
        (first | rw [d261] | (simp only [i64_w, i32_w]; rw [d261]) | skip)
        have K262 := Ak c260
        clear c260
        try go_wp2
        go_meet
        case rel => exact ⟨_, _, _, _, _, _, _, _, _, _, _, _, _, _, _, s, ⟨F58.out⟩, ⟨F59.out⟩, ⟨F61.out⟩, ⟨F57.out⟩, ⟨StR.toI F60.out⟩, ⟨Rd.less F62.out (by omega)⟩, ⟨HB53.out⟩, ⟨KP56.out⟩, ⟨(by show g5 + 1 ≤ W44.heap.size; have z0_ := HB0.out.size; have z1_ := HG.out; have z2_ := HG0.out; have z3_ := HF.out; have z4_ := HHI.out; have z5_ := C23.out; have z6_ := C24.out; have z7_ := C25.out; have z8_ := C26.out; have z9_ := T55.out; omega)⟩, ⟨HS0.out⟩, ⟨HZ0.out⟩⟩
 case rest =>
  obtain ⟨W63, hW_⟩ : ∃ x_, x_ = wc := ⟨_, rfl⟩
  subst hW_
  obtain ⟨b0_, n0_, e0_, b1_, n1_, e1_, b2_, n2_, e2_, b3_, n3_, e3_, b4_, n4_, e4_, t_, BK276, BK277, BK278, HR279, HR280, RD281, HB282, KP283, HZ284, HX285, HX286⟩ := hcut
  have HSt := HX285
  have HZt := HX286
  go_wp2_with (first | ((with_reducible refine gate_dst (N := 79) rfl ?_); refine ev_load rfl (N := 79) rfl rfl (g := g5) rfl (cs := #[.slice b0_ n0_ e0_, .slice b1_ n1_ e1_, .slice b2_ n2_ e2_, .slice b3_ n3_ e3_, .slice b4_ n4_ e4_]) BK278.out hu26 rfl (by kernel_rfl) ?_) | ((with_reducible refine gate_store (t := 26) (p := 4) rfl ?_); refine ev_put (by rfl) rfl rfl (g := g4) rfl (cs := #[.slice b0_ n0_ e0_, .slice b1_ n1_ e1_, .slice b2_ n2_ e2_, .slice b3_ n3_ e3_, .slice b4_ n4_ e4_]) rfl BK277.out (by kernel_rfl) rfl rfl ?_; intro W287 BK288 HB289 HK290; have z0_ := HB0.out.size; have z1_ := HG.out; have z2_ := HG0.out; have z3_ := HF.out; have z4_ := HHI.out; have z5_ := C23.out; have z6_ := C24.out; have z7_ := C25.out; have z8_ := C26.out; have z9_ := HZ284.out; have T291 := Ak (show g5 + 1 ≤ W63.heap.size from (by omega)); have HB292 := Ak (below_at HB282.out HB289.out (by show w0.heap.size ≤ g4; omega)); have HK293 := Ak (HK290.out); have KP295 := Ak (kept_new KP283.out HK293.out (by show w.heap.size ≤ g4; omega)); have T294 := Ak (Nat.le_trans T291.out HK293.out.1); have F296 := Ak (StI.kept HR279.out HK293.out (fun k_ h_ => (by obtain ⟨h1_, h2_⟩ := h_; omega))); have F297 := Ak (Bk.kept BK276.out HK293.out (fun h_ => (by obtain ⟨h1_, h2_⟩ := h_; omega))); have F298 := Ak (BK288.out); have F299 := Ak (StI.kept HR280.out HK293.out (fun k_ h_ => (by obtain ⟨h1_, h2_⟩ := h_; omega))); have F300 := Ak (Bk.kept BK278.out HK293.out (fun h_ => (by obtain ⟨h1_, h2_⟩ := h_; omega))); have F301 := Ak (Rd.kept RD281.out HK293.out (fun h_ => (by obtain ⟨h1_, h2_⟩ := h_; omega))); clear z0_ z1_ z2_ z3_ z4_ z5_ z6_ z7_ z8_ z9_))
  try go_wp2
  refine bodyPost_ret (results_cell_row rfl _ _ g4 26 #[.slice b0_ n0_ e0_, .slice b1_ n1_ e1_, .slice b2_ n2_ e2_, .slice b3_ n3_ e3_, .slice b4_ n4_ e4_] (0, 0) _ rfl F298.out hu26 rfl (by kernel_rfl)) rfl ?_
  exact ⟨_, _, rfl, StI.widen F299.out (by have z0_ := HB0.out.size; have z1_ := HG.out; have z2_ := HG0.out; have z3_ := HF.out; have z4_ := HHI.out; have z5_ := C23.out; have z6_ := C24.out; have z7_ := C25.out; have z8_ := C26.out; have z9_ := T294.out; omega) (by have z0_ := HB0.out.size; have z1_ := HG.out; have z2_ := HG0.out; have z3_ := HF.out; have z4_ := HHI.out; have z5_ := C23.out; have z6_ := C24.out; have z7_ := C25.out; have z8_ := C26.out; have z9_ := T294.out; omega), HSt.out, HZt.out, Rd.less F301.out (by omega), HB292.out, KP295.out⟩
end Go.Proofs.Ytmekkapacbdbeaa.P
namespace Go.Proofs.Ytmekkapacbdbeaa.P
open Go.RowKit Go.Proofs.YtmekkapacbdbeaaW.PrintWords Go.Proofs.YtmekkapacbdbeaaW.PrintLast Go.Proofs.YtmekkapacbdbeaaW.PrintMore
attribute [local go_sem] max2_int min2_int max_two min_two max_three min_three max_four min_four   
set_option linter.unusedVariables false
set_option linter.unusedSimpArgs false
def spec_l2Long.l0 : Nat → ByteArray → Int → Option (ByteArray)
 | 0, _, _ => none
 | k + 1, x0, x1 => if (x0.size : Int) < x1 then (if x0.size + 1 ≤ 9223372036854775807 then (spec_l2Long.l0 k (x0 ++ (⟨#[46]⟩ : ByteArray)) x1) else (none)) else (some x0)
def spec_l2Long.f (k : Nat) (a0 : ByteArray) (a1 : Int) : Option (ByteArray) := spec_l2Long.l0 k a0 a1
set_option maxHeartbeats 8000000 in
set_option maxRecDepth 100000 in
theorem spec_l2Long.calls (k : Nat) (a0 : ByteArray) (a1 : Int) (r : ByteArray) (w : World) (h : spec_l2Long.f k a0 a1 = some r) :
  Calls Try.prog 80 #[.string a0, .int .i64 a1] w fun e w' => e = .returned (.string r) ∧ Drawn0 w w' := by
 have H : (spec_l2Long.l0 k a0 a1) = some r := h
 clear h
 have H' := Ak H
 clear H
 go_enter Try.func80, Try.ntmps80
 go_wp2
 go_loopg [0] k (fun kq v0 w' => ∃ (x0_1 : ByteArray), v0 = .string x0_1 ∧ Aside0 (spec_l2Long.l0 kq x0_1 a1 = some r) ∧ Aside0 (kq ≤ k) ∧ Drawn0 w w')
 case atStart => exact ⟨(a0), (by first | rfl | (simp; done) | (simp [*]; done)), H', ⟨Nat.le_refl _⟩, by repeat (first | exact Drawn0.refl _ | apply Drawn0.step)⟩
 case round =>
  clear H'
  try clear p2
  obtain ⟨x0_1, rfl, HA, HK1, ⟨m1, rfl⟩⟩ := hrel
  cases gk with
  | zero => exact absurd HA.out (by simp [spec_l2Long.l0])
  | succ k1 =>
   have H := HA.out
   clear HA
   simp only [spec_l2Long.l0] at H
   by_cases c3 : (x0_1.size : Int) < a1
   ·rw [if_pos c3] at H
    have c3b0 : decide ((x0_1.size : Int) < a1) = true := decide_eq_true c3
    clear c3
    by_cases c4 : x0_1.size + 1 ≤ 9223372036854775807
    ·rw [if_pos c4] at H
     have c4b0 := eq_true c4
     have c4b1 : decide (x0_1.size + 1 ≤ 9223372036854775807) = true := decide_eq_true c4
     try have c4b2 : (9223372036854775807 < x0_1.size + 1) = False := eq_false (Nat.not_lt.2 c4)
     have H' := Ak H
     clear H
     go_wp2
     go_roundg k1
     case measure => have := HK1.out; omega
     case rel => exact ⟨(x0_1 ++ (⟨#[46]⟩ : ByteArray)), (by first | rfl | (simp; done) | (simp [*]; done)), H', ⟨by have := HK1.out; omega⟩, by repeat (first | exact Drawn0.refl _ | apply Drawn0.step)⟩
    ·rw [if_neg c4] at H
     exact absurd H (by simp)
   ·rw [if_neg c3] at H
    have c3b0 : decide ((x0_1.size : Int) < a1) = false := decide_eq_false c3
    clear c3
    obtain rfl := Option.some.inj H
    go_wp2
    go_ret
    exact ⟨by first | rfl | (simp; done) | (simp [*]; done), by repeat (first | exact Drawn0.refl _ | apply Drawn0.step)⟩
end Go.Proofs.Ytmekkapacbdbeaa.P
namespace Go.Proofs.Ytmekkapacbdbeaa.P
open Go.RowKit Go.Proofs.YtmekkapacbdbeaaW.PrintWords Go.Proofs.YtmekkapacbdbeaaW.PrintLast Go.Proofs.YtmekkapacbdbeaaW.PrintMore
attribute [local go_sem] max2_int min2_int max_two min_two max_three min_three max_four min_four   
set_option linter.unusedVariables false
set_option linter.unusedSimpArgs false
def spec_l2Write.f (k : Nat) (a0 : ByteArray) (a1 : Int) (a2 : ByteArray) : Option (ByteArray) := (spec_l2Long.f k a0 a1).bind fun t278 => (if 0 ≤ a1 then (if a1 ≤ (t278.size : Int) then (if (t278.extract 0 (a1 : Int).toNat).size + a2.size ≤ 9223372036854775807 then ((spec_l1Min.f (t278.size : Int) (wrap64 (a1 + (a2.size : Int)))).bind fun t279 => (if 0 ≤ t279 then (if t279 ≤ (t278.size : Int) then (if ((t278.extract 0 (a1 : Int).toNat) ++ a2).size + (t278.extract (t279 : Int).toNat t278.size).size ≤ 9223372036854775807 then (some (((t278.extract 0 (a1 : Int).toNat) ++ a2) ++ (t278.extract (t279 : Int).toNat t278.size))) else (none)) else (none)) else (none))) else (none)) else (none)) else (none))
set_option maxHeartbeats 8000000 in
set_option maxRecDepth 100000 in
theorem spec_l2Write.calls (k : Nat) (a0 : ByteArray) (a1 : Int) (a2 : ByteArray) (r : ByteArray) (w : World) (h : spec_l2Write.f k a0 a1 a2 = some r) :
  Calls Try.prog 74 #[.string a0, .int .i64 a1, .string a2] w fun e w' => e = .returned (.string r) ∧ Drawn0 w w' := by
 have H : ((spec_l2Long.f k a0 a1).bind fun t278 => (if 0 ≤ a1 then (if a1 ≤ (t278.size : Int) then (if (t278.extract 0 (a1 : Int).toNat).size + a2.size ≤ 9223372036854775807 then ((spec_l1Min.f (t278.size : Int) (wrap64 (a1 + (a2.size : Int)))).bind fun t279 => (if 0 ≤ t279 then (if t279 ≤ (t278.size : Int) then (if ((t278.extract 0 (a1 : Int).toNat) ++ a2).size + (t278.extract (t279 : Int).toNat t278.size).size ≤ 9223372036854775807 then (some (((t278.extract 0 (a1 : Int).toNat) ++ a2) ++ (t278.extract (t279 : Int).toNat t278.size))) else (none)) else (none)) else (none))) else (none)) else (none)) else (none))) = some r := h
 clear h
 replace H := Option.bind_eq_some_iff.mp H
 obtain ⟨t278, A40, H⟩ := H
 replace H : (if 0 ≤ a1 then (if a1 ≤ (t278.size : Int) then (if (t278.extract 0 (a1 : Int).toNat).size + a2.size ≤ 9223372036854775807 then ((spec_l1Min.f (t278.size : Int) (wrap64 (a1 + (a2.size : Int)))).bind fun t279 => (if 0 ≤ t279 then (if t279 ≤ (t278.size : Int) then (if ((t278.extract 0 (a1 : Int).toNat) ++ a2).size + (t278.extract (t279 : Int).toNat t278.size).size ≤ 9223372036854775807 then (some (((t278.extract 0 (a1 : Int).toNat) ++ a2) ++ (t278.extract (t279 : Int).toNat t278.size))) else (none)) else (none)) else (none))) else (none)) else (none)) else (none)) = some r := H
 have A4 := Ak A40
 clear A40
 by_cases c5 : 0 ≤ a1
 ·rw [if_pos c5] at H
  have c5b0 := eq_true c5
  have c5b1 : decide (0 ≤ a1) = true := decide_eq_true c5
  clear c5
  by_cases c6 : a1 ≤ (t278.size : Int)
  ·rw [if_pos c6] at H
   have c6b0 := eq_true c6
   have c6b1 : decide (a1 ≤ (t278.size : Int)) = true := decide_eq_true c6
   clear c6
   by_cases c7 : (t278.extract 0 (a1 : Int).toNat).size + a2.size ≤ 9223372036854775807
   ·rw [if_pos c7] at H
    have c7b0 := eq_true c7
    have c7b1 : decide ((t278.extract 0 (a1 : Int).toNat).size + a2.size ≤ 9223372036854775807) = true := decide_eq_true c7
    try have c7b2 : (9223372036854775807 < (t278.extract 0 (a1 : Int).toNat).size + a2.size) = False := eq_false (Nat.not_lt.2 c7)
    replace H := Option.bind_eq_some_iff.mp H
    obtain ⟨t279, A80, H⟩ := H
    replace H : (if 0 ≤ t279 then (if t279 ≤ (t278.size : Int) then (if ((t278.extract 0 (a1 : Int).toNat) ++ a2).size + (t278.extract (t279 : Int).toNat t278.size).size ≤ 9223372036854775807 then (some (((t278.extract 0 (a1 : Int).toNat) ++ a2) ++ (t278.extract (t279 : Int).toNat t278.size))) else (none)) else (none)) else (none)) = some r := H
    have A8 := Ak A80
    clear A80
    by_cases c9 : 0 ≤ t279
    ·rw [if_pos c9] at H
     have c9b0 := eq_true c9
     have c9b1 : decide (0 ≤ t279) = true := decide_eq_true c9
     clear c9
     by_cases c10 : t279 ≤ (t278.size : Int)
     ·rw [if_pos c10] at H
      have c10b0 := eq_true c10
      have c10b1 : decide (t279 ≤ (t278.size : Int)) = true := decide_eq_true c10
      clear c10
      by_cases c11 : ((t278.extract 0 (a1 : Int).toNat) ++ a2).size + (t278.extract (t279 : Int).toNat t278.size).size ≤ 9223372036854775807
      ·rw [if_pos c11] at H
       have c11b0 := eq_true c11
       have c11b1 : decide (((t278.extract 0 (a1 : Int).toNat) ++ a2).size + (t278.extract (t279 : Int).toNat t278.size).size ≤ 9223372036854775807) = true := decide_eq_true c11
       try have c11b2 : (9223372036854775807 < ((t278.extract 0 (a1 : Int).toNat) ++ a2).size + (t278.extract (t279 : Int).toNat t278.size).size) = False := eq_false (Nat.not_lt.2 c11)
       obtain rfl := Option.some.inj H
       go_enter Try.func74, Try.ntmps74
       go_wp2_with (first | (go_at_call 80; (with_reducible refine (spec_l2Long.calls k a0 a1 t278 _ A4.out).mono ?_); rintro e w' ⟨rfl, ⟨nd, rfl⟩⟩; (try first | exact ⟨rfl, _, World.drewN_drewN _ _ _⟩ | exact ⟨rfl, _, Eq.trans (World.drewN_drewN _ _ _) (congrArg (World.drewN _) (Nat.add_assoc _ _ _))⟩)) | (go_at_call 78; (with_reducible refine (spec_l1Min.calls (t278.size : Int) (wrap64 (a1 + (a2.size : Int))) t279 _ A8.out).mono ?_); rintro e w' ⟨rfl, ⟨nd, rfl⟩⟩; (try first | exact ⟨rfl, _, World.drewN_drewN _ _ _⟩ | exact ⟨rfl, _, Eq.trans (World.drewN_drewN _ _ _) (congrArg (World.drewN _) (Nat.add_assoc _ _ _))⟩)))
       repeat (go_quiet (first | (go_at_call 80; (with_reducible refine (spec_l2Long.calls k a0 a1 t278 _ A4.out).mono ?_); rintro e w' ⟨rfl, ⟨nd, rfl⟩⟩; (try first | exact ⟨rfl, _, World.drewN_drewN _ _ _⟩ | exact ⟨rfl, _, Eq.trans (World.drewN_drewN _ _ _) (congrArg (World.drewN _) (Nat.add_assoc _ _ _))⟩)) | (go_at_call 78; (with_reducible refine (spec_l1Min.calls (t278.size : Int) (wrap64 (a1 + (a2.size : Int))) t279 _ A8.out).mono ?_); rintro e w' ⟨rfl, ⟨nd, rfl⟩⟩; (try first | exact ⟨rfl, _, World.drewN_drewN _ _ _⟩ | exact ⟨rfl, _, Eq.trans (World.drewN_drewN _ _ _) (congrArg (World.drewN _) (Nat.add_assoc _ _ _))⟩))); try go_wp2_with (first | (go_at_call 80; (with_reducible refine (spec_l2Long.calls k a0 a1 t278 _ A4.out).mono ?_); rintro e w' ⟨rfl, ⟨nd, rfl⟩⟩; (try first | exact ⟨rfl, _, World.drewN_drewN _ _ _⟩ | exact ⟨rfl, _, Eq.trans (World.drewN_drewN _ _ _) (congrArg (World.drewN _) (Nat.add_assoc _ _ _))⟩)) | (go_at_call 78; (with_reducible refine (spec_l1Min.calls (t278.size : Int) (wrap64 (a1 + (a2.size : Int))) t279 _ A8.out).mono ?_); rintro e w' ⟨rfl, ⟨nd, rfl⟩⟩; (try first | exact ⟨rfl, _, World.drewN_drewN _ _ _⟩ | exact ⟨rfl, _, Eq.trans (World.drewN_drewN _ _ _) (congrArg (World.drewN _) (Nat.add_assoc _ _ _))⟩))))
       go_ret
       exact ⟨by first | rfl | (simp; done) | (simp [*]; done), by repeat (first | exact Drawn0.refl _ | apply Drawn0.step)⟩
      ·rw [if_neg c11] at H
       exact absurd H (by simp)
     ·rw [if_neg c10] at H
      exact absurd H (by simp)
    ·rw [if_neg c9] at H
     exact absurd H (by simp)
   ·rw [if_neg c7] at H
    exact absurd H (by simp)
  ·rw [if_neg c6] at H
   exact absurd H (by simp)
 ·rw [if_neg c5] at H
  exact absurd H (by simp)
end Go.Proofs.Ytmekkapacbdbeaa.P
namespace Go.Proofs.Ytmekkapacbdbeaa.Sh
open Go.Shelf Go.RowKit Go.Lib
end Go.Proofs.Ytmekkapacbdbeaa.Sh
namespace Go.Proofs.Ytmekkapacbdbeaa.P
open Go.RowKit Go.Proofs.YtmekkapacbdbeaaW.PrintWords Go.Proofs.YtmekkapacbdbeaaW.PrintLast Go.Proofs.YtmekkapacbdbeaaW.PrintMore
set_option linter.unusedVariables false
set_option linter.unusedSimpArgs false
def dots (n : Nat) : ByteArray := ⟨(List.replicate n (46 : UInt8)).toArray⟩
end Go.Proofs.Ytmekkapacbdbeaa.P
namespace Go.Proofs.Ytmekkapacbdbeaa.P
open Go.RowKit Go.Proofs.YtmekkapacbdbeaaW.PrintWords Go.Proofs.YtmekkapacbdbeaaW.PrintLast Go.Proofs.YtmekkapacbdbeaaW.PrintMore
attribute [local go_sem] max2_int min2_int max_two min_two max_three min_three max_four min_four   
set_option linter.unusedVariables false
set_option linter.unusedSimpArgs false
end Go.Proofs.Ytmekkapacbdbeaa.P
namespace Go.Proofs.Ytmekkapacbdbeaa.P
open Go.RowKit Go.Proofs.YtmekkapacbdbeaaW.PrintWords Go.Proofs.YtmekkapacbdbeaaW.PrintLast Go.Proofs.YtmekkapacbdbeaaW.PrintMore
attribute [local go_sem] max2_int min2_int max_two min_two max_three min_three max_four min_four   
set_option linter.unusedVariables false
set_option linter.unusedSimpArgs false
def spec_l5Req.f (k : Nat) (a0_0 : Int) (a0_1 : Int) (a0_2 : Int) (a0_3 : Int) (a0_4 : Int) (a0_5 : ByteArray) : Option (Bool) := (spec_l4Who.f a0_0).bind fun t276 => (if t276 = true then (if a0_1 < 0 then (some false) else (if a0_1 > 100 then (some false) else (if a0_2 < 1 then (some false) else (if a0_2 > 1000 then (some false) else (if a0_3 < 0 then (some false) else (if a0_3 ≥ 3 then (some false) else (if a0_4 ≥ 0 then (if a0_4 ≤ 48 then ((spec_TextOk.f k a0_5).bind fun t277 => (if t277 = true then (if a0_5.toList = ([] : List UInt8) then (some false) else (some (decide ((wrap64 (a0_4 + (a0_5.size : Int))) ≤ 48)))) else (some false))) else (some false)) else (some false)))))))) else (some false))
set_option maxHeartbeats 8000000 in
set_option maxRecDepth 100000 in
theorem spec_l5Req.calls (k : Nat) (a0_0 : Int) (a0_1 : Int) (a0_2 : Int) (a0_3 : Int) (a0_4 : Int) (a0_5 : ByteArray) (r : Bool) (w : World) (h : spec_l5Req.f k a0_0 a0_1 a0_2 a0_3 a0_4 a0_5 = some r) :
  Calls Try.prog 73 #[.agg #[.int .i64 a0_0, .int .i64 a0_1, .int .i64 a0_2, .int .i64 a0_3, .int .i64 a0_4, .string a0_5]] w fun e w' => e = .returned (.bool r) ∧ Below w.heap.size w w' := by
 have hu52 := Try.underlying52
 have HB := Ak (Below.refl w.heap.size w)
 have H : ((spec_l4Who.f a0_0).bind fun t276 => (if t276 = true then (if a0_1 < 0 then (some false) else (if a0_1 > 100 then (some false) else (if a0_2 < 1 then (some false) else (if a0_2 > 1000 then (some false) else (if a0_3 < 0 then (some false) else (if a0_3 ≥ 3 then (some false) else (if a0_4 ≥ 0 then (if a0_4 ≤ 48 then ((spec_TextOk.f k a0_5).bind fun t277 => (if t277 = true then (if a0_5.toList = ([] : List UInt8) then (some false) else (some (decide ((wrap64 (a0_4 + (a0_5.size : Int))) ≤ 48)))) else (some false))) else (some false)) else (some false)))))))) else (some false))) = some r := h
 clear h
 replace H := Option.bind_eq_some_iff.mp H
 obtain ⟨t276, A20, H⟩ := H
 replace H : (if t276 = true then (if a0_1 < 0 then (some false) else (if a0_1 > 100 then (some false) else (if a0_2 < 1 then (some false) else (if a0_2 > 1000 then (some false) else (if a0_3 < 0 then (some false) else (if a0_3 ≥ 3 then (some false) else (if a0_4 ≥ 0 then (if a0_4 ≤ 48 then ((spec_TextOk.f k a0_5).bind fun t277 => (if t277 = true then (if a0_5.toList = ([] : List UInt8) then (some false) else (some (decide ((wrap64 (a0_4 + (a0_5.size : Int))) ≤ 48)))) else (some false))) else (some false)) else (some false)))))))) else (some false)) = some r := H
 have A2 := Ak A20
 clear A20
 by_cases c3 : t276 = true
 ·subst c3
  have H1 : (if a0_1 < 0 then (some false) else (if a0_1 > 100 then (some false) else (if a0_2 < 1 then (some false) else (if a0_2 > 1000 then (some false) else (if a0_3 < 0 then (some false) else (if a0_3 ≥ 3 then (some false) else (if a0_4 ≥ 0 then (if a0_4 ≤ 48 then ((spec_TextOk.f k a0_5).bind fun t277 => (if t277 = true then (if a0_5.toList = ([] : List UInt8) then (some false) else (some (decide ((wrap64 (a0_4 + (a0_5.size : Int))) ≤ 48)))) else (some false))) else (some false)) else (some false)))))))) = some r := by rw [if_pos rfl] at H; exact H
  clear H
  have H := H1
  clear H1
  by_cases c4 : a0_1 < 0
  ·rw [if_pos c4] at H
   have c4b0 : decide (a0_1 < 0) = true := decide_eq_true c4
   clear c4
   obtain rfl := Option.some.inj H
   go_enter Try.func73, Try.ntmps73
   go_wp2_with (first | ((with_reducible refine gate_dst (N := 1) rfl ?_); (try (refine gate_guard (by rfl) ?_; dsimp only)); refine box_event ?hg (N := 1) ?hd (cs := #[.int .i64 a0_0, .int .i64 a0_1, .int .i64 a0_2, .int .i64 a0_3, .int .i64 a0_4, .string a0_5]) (t := 52) ?hr ?_; (case hd => rfl); (case hg => rfl); (case hr => first | (go_simp; done) | (go_simp; rfl)); intro gb275 hg w5 hbox hb; have n0_ := Ak (below_step (by repeat (first | (with_reducible first | exact HB.out | apply below_alloc | apply pw_below_drewN | apply below_drew1) | exact HB.out)) hb); have n1_ := Ak (hbox); have n2_ := Ak ((by rw [hg]; exact (below_size (by repeat (first | (with_reducible first | exact HB.out | apply below_alloc | apply pw_below_drewN | apply below_drew1) | exact HB.out))) : w.heap.size ≤ gb275)); have n3_ := Ak ((by rw [hg]; exact (below_size (by repeat (first | (with_reducible first | exact HB.out | apply below_alloc | apply pw_below_drewN | apply below_drew1) | exact HB.out))) : w.heap.size ≤ gb275)); clear HB; have HB := n0_; have BK275 := n1_; have GW275 := n2_; have GE275 := n3_; clear n0_ n1_ n2_ n3_; clear hb hbox hg; have hcz6_0 : w5.cell? ⟨gb275, 0, none⟩ = some (.int .i64 a0_0) := (blk_cell BK275.out 0).trans rfl; have hcz6_1 : w5.cell? ⟨gb275, 1, none⟩ = some (.int .i64 a0_1) := (blk_cell BK275.out 1).trans rfl; have hcz6_2 : w5.cell? ⟨gb275, 2, none⟩ = some (.int .i64 a0_2) := (blk_cell BK275.out 2).trans rfl; have hcz6_3 : w5.cell? ⟨gb275, 3, none⟩ = some (.int .i64 a0_3) := (blk_cell BK275.out 3).trans rfl; have hcz6_4 : w5.cell? ⟨gb275, 4, none⟩ = some (.int .i64 a0_4) := (blk_cell BK275.out 4).trans rfl; have hcz6_5 : w5.cell? ⟨gb275, 5, none⟩ = some (.string a0_5) := (blk_cell BK275.out 5).trans rfl; have hfz6_0 := blk_frozen BK275.out 0; have hfz6_1 := blk_frozen BK275.out 1; have hfz6_2 := blk_frozen BK275.out 2; have hfz6_3 := blk_frozen BK275.out 3; have hfz6_4 := blk_frozen BK275.out 4; have hfz6_5 := blk_frozen BK275.out 5) | ((with_reducible refine gate_callee (f := 71) rfl ?_); refine goesL_ (some 5) rfl rfl Try.func71 (by kernel_rfl) rfl #[.int .i64 a0_0] rfl (by (try simp only [List.map_toArray, List.map_cons, List.map_nil]); first | done | rfl | (simp only [List.length_drop, List.length_take]; rfl)) ?_; (with_reducible refine (spec_l4Who.calls a0_0 true _ A2.out).mono ?_); rintro e w' ⟨rfl, ⟨nd, rfl⟩⟩; refine ⟨_, rfl, ?_⟩))
   go_ret
   exact ⟨by first | rfl | (simp [errW_none, errW_some] <;> rfl) | (simp [*, errW_none, errW_some] <;> rfl), by repeat (first | (with_reducible first | exact HB.out | apply below_alloc | apply pw_below_drewN | apply below_drew1 | refine below_set ?_ GE275.out) | exact HB.out)⟩
  ·rw [if_neg c4] at H
   have c4b0 : decide (a0_1 < 0) = false := decide_eq_false c4
   clear c4
   by_cases c7 : a0_1 > 100
   ·rw [if_pos c7] at H
    have c7b0 : decide (100 < a0_1) = true := decide_eq_true c7
    clear c7
    obtain rfl := Option.some.inj H
    go_enter Try.func73, Try.ntmps73
    go_wp2_with (first | ((with_reducible refine gate_dst (N := 1) rfl ?_); (try (refine gate_guard (by rfl) ?_; dsimp only)); refine box_event ?hg (N := 1) ?hd (cs := #[.int .i64 a0_0, .int .i64 a0_1, .int .i64 a0_2, .int .i64 a0_3, .int .i64 a0_4, .string a0_5]) (t := 52) ?hr ?_; (case hd => rfl); (case hg => rfl); (case hr => first | (go_simp; done) | (go_simp; rfl)); intro gb275 hg w8 hbox hb; have n0_ := Ak (below_step (by repeat (first | (with_reducible first | exact HB.out | apply below_alloc | apply pw_below_drewN | apply below_drew1) | exact HB.out)) hb); have n1_ := Ak (hbox); have n2_ := Ak ((by rw [hg]; exact (below_size (by repeat (first | (with_reducible first | exact HB.out | apply below_alloc | apply pw_below_drewN | apply below_drew1) | exact HB.out))) : w.heap.size ≤ gb275)); have n3_ := Ak ((by rw [hg]; exact (below_size (by repeat (first | (with_reducible first | exact HB.out | apply below_alloc | apply pw_below_drewN | apply below_drew1) | exact HB.out))) : w.heap.size ≤ gb275)); clear HB; have HB := n0_; have BK275 := n1_; have GW275 := n2_; have GE275 := n3_; clear n0_ n1_ n2_ n3_; clear hb hbox hg; have hcz9_0 : w8.cell? ⟨gb275, 0, none⟩ = some (.int .i64 a0_0) := (blk_cell BK275.out 0).trans rfl; have hcz9_1 : w8.cell? ⟨gb275, 1, none⟩ = some (.int .i64 a0_1) := (blk_cell BK275.out 1).trans rfl; have hcz9_2 : w8.cell? ⟨gb275, 2, none⟩ = some (.int .i64 a0_2) := (blk_cell BK275.out 2).trans rfl; have hcz9_3 : w8.cell? ⟨gb275, 3, none⟩ = some (.int .i64 a0_3) := (blk_cell BK275.out 3).trans rfl; have hcz9_4 : w8.cell? ⟨gb275, 4, none⟩ = some (.int .i64 a0_4) := (blk_cell BK275.out 4).trans rfl; have hcz9_5 : w8.cell? ⟨gb275, 5, none⟩ = some (.string a0_5) := (blk_cell BK275.out 5).trans rfl; have hfz9_0 := blk_frozen BK275.out 0; have hfz9_1 := blk_frozen BK275.out 1; have hfz9_2 := blk_frozen BK275.out 2; have hfz9_3 := blk_frozen BK275.out 3; have hfz9_4 := blk_frozen BK275.out 4; have hfz9_5 := blk_frozen BK275.out 5) | ((with_reducible refine gate_callee (f := 71) rfl ?_); refine goesL_ (some 5) rfl rfl Try.func71 (by kernel_rfl) rfl #[.int .i64 a0_0] rfl (by (try simp only [List.map_toArray, List.map_cons, List.map_nil]); first | done | rfl | (simp only [List.length_drop, List.length_take]; rfl)) ?_; (with_reducible refine (spec_l4Who.calls a0_0 true _ A2.out).mono ?_); rintro e w' ⟨rfl, ⟨nd, rfl⟩⟩; refine ⟨_, rfl, ?_⟩))
    go_ret
    exact ⟨by first | rfl | (simp [errW_none, errW_some] <;> rfl) | (simp [*, errW_none, errW_some] <;> rfl), by repeat (first | (with_reducible first | exact HB.out | apply below_alloc | apply pw_below_drewN | apply below_drew1 | refine below_set ?_ GE275.out) | exact HB.out)⟩
   ·rw [if_neg c7] at H
    have c7b0 : decide (100 < a0_1) = false := decide_eq_false c7
    clear c7
    by_cases c10 : a0_2 < 1
    ·rw [if_pos c10] at H
     have c10b0 : decide (a0_2 < 1) = true := decide_eq_true c10
     clear c10
     obtain rfl := Option.some.inj H
     go_enter Try.func73, Try.ntmps73
     go_wp2_with (first | ((with_reducible refine gate_dst (N := 1) rfl ?_); (try (refine gate_guard (by rfl) ?_; dsimp only)); refine box_event ?hg (N := 1) ?hd (cs := #[.int .i64 a0_0, .int .i64 a0_1, .int .i64 a0_2, .int .i64 a0_3, .int .i64 a0_4, .string a0_5]) (t := 52) ?hr ?_; (case hd => rfl); (case hg => rfl); (case hr => first | (go_simp; done) | (go_simp; rfl)); intro gb275 hg w11 hbox hb; have n0_ := Ak (below_step (by repeat (first | (with_reducible first | exact HB.out | apply below_alloc | apply pw_below_drewN | apply below_drew1) | exact HB.out)) hb); have n1_ := Ak (hbox); have n2_ := Ak ((by rw [hg]; exact (below_size (by repeat (first | (with_reducible first | exact HB.out | apply below_alloc | apply pw_below_drewN | apply below_drew1) | exact HB.out))) : w.heap.size ≤ gb275)); have n3_ := Ak ((by rw [hg]; exact (below_size (by repeat (first | (with_reducible first | exact HB.out | apply below_alloc | apply pw_below_drewN | apply below_drew1) | exact HB.out))) : w.heap.size ≤ gb275)); clear HB; have HB := n0_; have BK275 := n1_; have GW275 := n2_; have GE275 := n3_; clear n0_ n1_ n2_ n3_; clear hb hbox hg; have hcz12_0 : w11.cell? ⟨gb275, 0, none⟩ = some (.int .i64 a0_0) := (blk_cell BK275.out 0).trans rfl; have hcz12_1 : w11.cell? ⟨gb275, 1, none⟩ = some (.int .i64 a0_1) := (blk_cell BK275.out 1).trans rfl; have hcz12_2 : w11.cell? ⟨gb275, 2, none⟩ = some (.int .i64 a0_2) := (blk_cell BK275.out 2).trans rfl; have hcz12_3 : w11.cell? ⟨gb275, 3, none⟩ = some (.int .i64 a0_3) := (blk_cell BK275.out 3).trans rfl; have hcz12_4 : w11.cell? ⟨gb275, 4, none⟩ = some (.int .i64 a0_4) := (blk_cell BK275.out 4).trans rfl; have hcz12_5 : w11.cell? ⟨gb275, 5, none⟩ = some (.string a0_5) := (blk_cell BK275.out 5).trans rfl; have hfz12_0 := blk_frozen BK275.out 0; have hfz12_1 := blk_frozen BK275.out 1; have hfz12_2 := blk_frozen BK275.out 2; have hfz12_3 := blk_frozen BK275.out 3; have hfz12_4 := blk_frozen BK275.out 4; have hfz12_5 := blk_frozen BK275.out 5) | ((with_reducible refine gate_callee (f := 71) rfl ?_); refine goesL_ (some 5) rfl rfl Try.func71 (by kernel_rfl) rfl #[.int .i64 a0_0] rfl (by (try simp only [List.map_toArray, List.map_cons, List.map_nil]); first | done | rfl | (simp only [List.length_drop, List.length_take]; rfl)) ?_; (with_reducible refine (spec_l4Who.calls a0_0 true _ A2.out).mono ?_); rintro e w' ⟨rfl, ⟨nd, rfl⟩⟩; refine ⟨_, rfl, ?_⟩))
     go_ret
     exact ⟨by first | rfl | (simp [errW_none, errW_some] <;> rfl) | (simp [*, errW_none, errW_some] <;> rfl), by repeat (first | (with_reducible first | exact HB.out | apply below_alloc | apply pw_below_drewN | apply below_drew1 | refine below_set ?_ GE275.out) | exact HB.out)⟩
    ·rw [if_neg c10] at H
     have c10b0 : decide (a0_2 < 1) = false := decide_eq_false c10
     clear c10
     by_cases c13 : a0_2 > 1000
     ·rw [if_pos c13] at H
      have c13b0 : decide (1000 < a0_2) = true := decide_eq_true c13
      clear c13
      obtain rfl := Option.some.inj H
      go_enter Try.func73, Try.ntmps73
      go_wp2_with (first | ((with_reducible refine gate_dst (N := 1) rfl ?_); (try (refine gate_guard (by rfl) ?_; dsimp only)); refine box_event ?hg (N := 1) ?hd (cs := #[.int .i64 a0_0, .int .i64 a0_1, .int .i64 a0_2, .int .i64 a0_3, .int .i64 a0_4, .string a0_5]) (t := 52) ?hr ?_; (case hd => rfl); (case hg => rfl); (case hr => first | (go_simp; done) | (go_simp; rfl)); intro gb275 hg w14 hbox hb; have n0_ := Ak (below_step (by repeat (first | (with_reducible first | exact HB.out | apply below_alloc | apply pw_below_drewN | apply below_drew1) | exact HB.out)) hb); have n1_ := Ak (hbox); have n2_ := Ak ((by rw [hg]; exact (below_size (by repeat (first | (with_reducible first | exact HB.out | apply below_alloc | apply pw_below_drewN | apply below_drew1) | exact HB.out))) : w.heap.size ≤ gb275)); have n3_ := Ak ((by rw [hg]; exact (below_size (by repeat (first | (with_reducible first | exact HB.out | apply below_alloc | apply pw_below_drewN | apply below_drew1) | exact HB.out))) : w.heap.size ≤ gb275)); clear HB; have HB := n0_; have BK275 := n1_; have GW275 := n2_; have GE275 := n3_; clear n0_ n1_ n2_ n3_; clear hb hbox hg; have hcz15_0 : w14.cell? ⟨gb275, 0, none⟩ = some (.int .i64 a0_0) := (blk_cell BK275.out 0).trans rfl; have hcz15_1 : w14.cell? ⟨gb275, 1, none⟩ = some (.int .i64 a0_1) := (blk_cell BK275.out 1).trans rfl; have hcz15_2 : w14.cell? ⟨gb275, 2, none⟩ = some (.int .i64 a0_2) := (blk_cell BK275.out 2).trans rfl; have hcz15_3 : w14.cell? ⟨gb275, 3, none⟩ = some (.int .i64 a0_3) := (blk_cell BK275.out 3).trans rfl; have hcz15_4 : w14.cell? ⟨gb275, 4, none⟩ = some (.int .i64 a0_4) := (blk_cell BK275.out 4).trans rfl; have hcz15_5 : w14.cell? ⟨gb275, 5, none⟩ = some (.string a0_5) := (blk_cell BK275.out 5).trans rfl; have hfz15_0 := blk_frozen BK275.out 0; have hfz15_1 := blk_frozen BK275.out 1; have hfz15_2 := blk_frozen BK275.out 2; have hfz15_3 := blk_frozen BK275.out 3; have hfz15_4 := blk_frozen BK275.out 4; have hfz15_5 := blk_frozen BK275.out 5) | ((with_reducible refine gate_callee (f := 71) rfl ?_); refine goesL_ (some 5) rfl rfl Try.func71 (by kernel_rfl) rfl #[.int .i64 a0_0] rfl (by (try simp only [List.map_toArray, List.map_cons, List.map_nil]); first | done | rfl | (simp only [List.length_drop, List.length_take]; rfl)) ?_; (with_reducible refine (spec_l4Who.calls a0_0 true _ A2.out).mono ?_); rintro e w' ⟨rfl, ⟨nd, rfl⟩⟩; refine ⟨_, rfl, ?_⟩))
      go_ret
      exact ⟨by first | rfl | (simp [errW_none, errW_some] <;> rfl) | (simp [*, errW_none, errW_some] <;> rfl), by repeat (first | (with_reducible first | exact HB.out | apply below_alloc | apply pw_below_drewN | apply below_drew1 | refine below_set ?_ GE275.out) | exact HB.out)⟩
     ·rw [if_neg c13] at H
      have c13b0 : decide (1000 < a0_2) = false := decide_eq_false c13
      clear c13
      by_cases c16 : a0_3 < 0
      ·rw [if_pos c16] at H
       have c16b0 : decide (a0_3 < 0) = true := decide_eq_true c16
       clear c16
       obtain rfl := Option.some.inj H
       go_enter Try.func73, Try.ntmps73
       go_wp2_with (first | ((with_reducible refine gate_dst (N := 1) rfl ?_); (try (refine gate_guard (by rfl) ?_; dsimp only)); refine box_event ?hg (N := 1) ?hd (cs := #[.int .i64 a0_0, .int .i64 a0_1, .int .i64 a0_2, .int .i64 a0_3, .int .i64 a0_4, .string a0_5]) (t := 52) ?hr ?_; (case hd => rfl); (case hg => rfl); (case hr => first | (go_simp; done) | (go_simp; rfl)); intro gb275 hg w17 hbox hb; have n0_ := Ak (below_step (by repeat (first | (with_reducible first | exact HB.out | apply below_alloc | apply pw_below_drewN | apply below_drew1) | exact HB.out)) hb); have n1_ := Ak (hbox); have n2_ := Ak ((by rw [hg]; exact (below_size (by repeat (first | (with_reducible first | exact HB.out | apply below_alloc | apply pw_below_drewN | apply below_drew1) | exact HB.out))) : w.heap.size ≤ gb275)); have n3_ := Ak ((by rw [hg]; exact (below_size (by repeat (first | (with_reducible first | exact HB.out | apply below_alloc | apply pw_below_drewN | apply below_drew1) | exact HB.out))) : w.heap.size ≤ gb275)); clear HB; have HB := n0_; have BK275 := n1_; have GW275 := n2_; have GE275 := n3_; clear n0_ n1_ n2_ n3_; clear hb hbox hg; have hcz18_0 : w17.cell? ⟨gb275, 0, none⟩ = some (.int .i64 a0_0) := (blk_cell BK275.out 0).trans rfl; have hcz18_1 : w17.cell? ⟨gb275, 1, none⟩ = some (.int .i64 a0_1) := (blk_cell BK275.out 1).trans rfl; have hcz18_2 : w17.cell? ⟨gb275, 2, none⟩ = some (.int .i64 a0_2) := (blk_cell BK275.out 2).trans rfl; have hcz18_3 : w17.cell? ⟨gb275, 3, none⟩ = some (.int .i64 a0_3) := (blk_cell BK275.out 3).trans rfl; have hcz18_4 : w17.cell? ⟨gb275, 4, none⟩ = some (.int .i64 a0_4) := (blk_cell BK275.out 4).trans rfl; have hcz18_5 : w17.cell? ⟨gb275, 5, none⟩ = some (.string a0_5) := (blk_cell BK275.out 5).trans rfl; have hfz18_0 := blk_frozen BK275.out 0; have hfz18_1 := blk_frozen BK275.out 1; have hfz18_2 := blk_frozen BK275.out 2; have hfz18_3 := blk_frozen BK275.out 3; have hfz18_4 := blk_frozen BK275.out 4; have hfz18_5 := blk_frozen BK275.out 5) | ((with_reducible refine gate_callee (f := 71) rfl ?_); refine goesL_ (some 5) rfl rfl Try.func71 (by kernel_rfl) rfl #[.int .i64 a0_0] rfl (by (try simp only [List.map_toArray, List.map_cons, List.map_nil]); first | done | rfl | (simp only [List.length_drop, List.length_take]; rfl)) ?_; (with_reducible refine (spec_l4Who.calls a0_0 true _ A2.out).mono ?_); rintro e w' ⟨rfl, ⟨nd, rfl⟩⟩; refine ⟨_, rfl, ?_⟩))
       go_ret
       exact ⟨by first | rfl | (simp [errW_none, errW_some] <;> rfl) | (simp [*, errW_none, errW_some] <;> rfl), by repeat (first | (with_reducible first | exact HB.out | apply below_alloc | apply pw_below_drewN | apply below_drew1 | refine below_set ?_ GE275.out) | exact HB.out)⟩
      ·rw [if_neg c16] at H
       have c16b0 : decide (a0_3 < 0) = false := decide_eq_false c16
       clear c16
       by_cases c19 : a0_3 ≥ 3
       ·rw [if_pos c19] at H
        have c19b0 : decide (3 ≤ a0_3) = true := decide_eq_true c19
        clear c19
        obtain rfl := Option.some.inj H
        go_enter Try.func73, Try.ntmps73
        go_wp2_with (first | ((with_reducible refine gate_dst (N := 1) rfl ?_); (try (refine gate_guard (by rfl) ?_; dsimp only)); refine box_event ?hg (N := 1) ?hd (cs := #[.int .i64 a0_0, .int .i64 a0_1, .int .i64 a0_2, .int .i64 a0_3, .int .i64 a0_4, .string a0_5]) (t := 52) ?hr ?_; (case hd => rfl); (case hg => rfl); (case hr => first | (go_simp; done) | (go_simp; rfl)); intro gb275 hg w20 hbox hb; have n0_ := Ak (below_step (by repeat (first | (with_reducible first | exact HB.out | apply below_alloc | apply pw_below_drewN | apply below_drew1) | exact HB.out)) hb); have n1_ := Ak (hbox); have n2_ := Ak ((by rw [hg]; exact (below_size (by repeat (first | (with_reducible first | exact HB.out | apply below_alloc | apply pw_below_drewN | apply below_drew1) | exact HB.out))) : w.heap.size ≤ gb275)); have n3_ := Ak ((by rw [hg]; exact (below_size (by repeat (first | (with_reducible first | exact HB.out | apply below_alloc | apply pw_below_drewN | apply below_drew1) | exact HB.out))) : w.heap.size ≤ gb275)); clear HB; have HB := n0_; have BK275 := n1_; have GW275 := n2_; have GE275 := n3_; clear n0_ n1_ n2_ n3_; clear hb hbox hg; have hcz21_0 : w20.cell? ⟨gb275, 0, none⟩ = some (.int .i64 a0_0) := (blk_cell BK275.out 0).trans rfl; have hcz21_1 : w20.cell? ⟨gb275, 1, none⟩ = some (.int .i64 a0_1) := (blk_cell BK275.out 1).trans rfl; have hcz21_2 : w20.cell? ⟨gb275, 2, none⟩ = some (.int .i64 a0_2) := (blk_cell BK275.out 2).trans rfl; have hcz21_3 : w20.cell? ⟨gb275, 3, none⟩ = some (.int .i64 a0_3) := (blk_cell BK275.out 3).trans rfl; have hcz21_4 : w20.cell? ⟨gb275, 4, none⟩ = some (.int .i64 a0_4) := (blk_cell BK275.out 4).trans rfl; have hcz21_5 : w20.cell? ⟨gb275, 5, none⟩ = some (.string a0_5) := (blk_cell BK275.out 5).trans rfl; have hfz21_0 := blk_frozen BK275.out 0; have hfz21_1 := blk_frozen BK275.out 1; have hfz21_2 := blk_frozen BK275.out 2; have hfz21_3 := blk_frozen BK275.out 3; have hfz21_4 := blk_frozen BK275.out 4; have hfz21_5 := blk_frozen BK275.out 5) | ((with_reducible refine gate_callee (f := 71) rfl ?_); refine goesL_ (some 5) rfl rfl Try.func71 (by kernel_rfl) rfl #[.int .i64 a0_0] rfl (by (try simp only [List.map_toArray, List.map_cons, List.map_nil]); first | done | rfl | (simp only [List.length_drop, List.length_take]; rfl)) ?_; (with_reducible refine (spec_l4Who.calls a0_0 true _ A2.out).mono ?_); rintro e w' ⟨rfl, ⟨nd, rfl⟩⟩; refine ⟨_, rfl, ?_⟩))
        go_ret
        exact ⟨by first | rfl | (simp [errW_none, errW_some] <;> rfl) | (simp [*, errW_none, errW_some] <;> rfl), by repeat (first | (with_reducible first | exact HB.out | apply below_alloc | apply pw_below_drewN | apply below_drew1 | refine below_set ?_ GE275.out) | exact HB.out)⟩
       ·rw [if_neg c19] at H
        have c19b0 : decide (3 ≤ a0_3) = false := decide_eq_false c19
        clear c19
        by_cases c22 : a0_4 ≥ 0
        ·rw [if_pos c22] at H
         have c22b0 : decide (0 ≤ a0_4) = true := decide_eq_true c22
         clear c22
         by_cases c23 : a0_4 ≤ 48
         ·rw [if_pos c23] at H
          have c23b0 : decide (a0_4 ≤ 48) = true := decide_eq_true c23
          clear c23
          replace H := Option.bind_eq_some_iff.mp H
          obtain ⟨t277, A240, H⟩ := H
          replace H : (if t277 = true then (if a0_5.toList = ([] : List UInt8) then (some false) else (some (decide ((wrap64 (a0_4 + (a0_5.size : Int))) ≤ 48)))) else (some false)) = some r := H
          have A24 := Ak A240
          clear A240
          by_cases c25 : t277 = true
          ·subst c25
           have H1 : (if a0_5.toList = ([] : List UInt8) then (some false) else (some (decide ((wrap64 (a0_4 + (a0_5.size : Int))) ≤ 48)))) = some r := by rw [if_pos rfl] at H; exact H
           clear H
           have H := H1
           clear H1
           by_cases c26 : a0_5.toList = ([] : List UInt8)
           ·rw [if_pos c26] at H
            have c26b0 : (a0_5.toList == ([] : List UInt8)) = true := beq_iff_eq.mpr c26
            have c26b1 : (a0_5.toList != ([] : List UInt8)) = false := bne_eq_false_iff_eq.mpr c26
            clear c26
            obtain rfl := Option.some.inj H
            go_enter Try.func73, Try.ntmps73
            go_wp2_with (first | ((with_reducible refine gate_dst (N := 1) rfl ?_); (try (refine gate_guard (by rfl) ?_; dsimp only)); refine box_event ?hg (N := 1) ?hd (cs := #[.int .i64 a0_0, .int .i64 a0_1, .int .i64 a0_2, .int .i64 a0_3, .int .i64 a0_4, .string a0_5]) (t := 52) ?hr ?_; (case hd => rfl); (case hg => rfl); (case hr => first | (go_simp; done) | (go_simp; rfl)); intro gb275 hg w27 hbox hb; have n0_ := Ak (below_step (by repeat (first | (with_reducible first | exact HB.out | apply below_alloc | apply pw_below_drewN | apply below_drew1) | exact HB.out)) hb); have n1_ := Ak (hbox); have n2_ := Ak ((by rw [hg]; exact (below_size (by repeat (first | (with_reducible first | exact HB.out | apply below_alloc | apply pw_below_drewN | apply below_drew1) | exact HB.out))) : w.heap.size ≤ gb275)); have n3_ := Ak ((by rw [hg]; exact (below_size (by repeat (first | (with_reducible first | exact HB.out | apply below_alloc | apply pw_below_drewN | apply below_drew1) | exact HB.out))) : w.heap.size ≤ gb275)); clear HB; have HB := n0_; have BK275 := n1_; have GW275 := n2_; have GE275 := n3_; clear n0_ n1_ n2_ n3_; clear hb hbox hg; have hcz28_0 : w27.cell? ⟨gb275, 0, none⟩ = some (.int .i64 a0_0) := (blk_cell BK275.out 0).trans rfl; have hcz28_1 : w27.cell? ⟨gb275, 1, none⟩ = some (.int .i64 a0_1) := (blk_cell BK275.out 1).trans rfl; have hcz28_2 : w27.cell? ⟨gb275, 2, none⟩ = some (.int .i64 a0_2) := (blk_cell BK275.out 2).trans rfl; have hcz28_3 : w27.cell? ⟨gb275, 3, none⟩ = some (.int .i64 a0_3) := (blk_cell BK275.out 3).trans rfl; have hcz28_4 : w27.cell? ⟨gb275, 4, none⟩ = some (.int .i64 a0_4) := (blk_cell BK275.out 4).trans rfl; have hcz28_5 : w27.cell? ⟨gb275, 5, none⟩ = some (.string a0_5) := (blk_cell BK275.out 5).trans rfl; have hfz28_0 := blk_frozen BK275.out 0; have hfz28_1 := blk_frozen BK275.out 1; have hfz28_2 := blk_frozen BK275.out 2; have hfz28_3 := blk_frozen BK275.out 3; have hfz28_4 := blk_frozen BK275.out 4; have hfz28_5 := blk_frozen BK275.out 5) | ((with_reducible refine gate_callee (f := 71) rfl ?_); refine goesL_ (some 5) rfl rfl Try.func71 (by kernel_rfl) rfl #[.int .i64 a0_0] rfl (by (try simp only [List.map_toArray, List.map_cons, List.map_nil]); first | done | rfl | (simp only [List.length_drop, List.length_take]; rfl)) ?_; (with_reducible refine (spec_l4Who.calls a0_0 true _ A2.out).mono ?_); rintro e w' ⟨rfl, ⟨nd, rfl⟩⟩; refine ⟨_, rfl, ?_⟩) | (go_at_call 75; (with_reducible refine (spec_TextOk.calls k a0_5 true _ A24.out).mono ?_); rintro e w' ⟨rfl, ⟨nd, rfl⟩⟩))
            go_ret
            exact ⟨by first | rfl | (simp [errW_none, errW_some] <;> rfl) | (simp [*, errW_none, errW_some] <;> rfl), by repeat (first | (with_reducible first | exact HB.out | apply below_alloc | apply pw_below_drewN | apply below_drew1 | refine below_set ?_ GE275.out) | exact HB.out)⟩
           ·rw [if_neg c26] at H
            have c26b0 : (a0_5.toList == ([] : List UInt8)) = false := beq_eq_false_iff_ne.mpr c26
            have c26b1 : (a0_5.toList != ([] : List UInt8)) = true := bne_iff_ne.mpr c26
            obtain rfl := Option.some.inj H
            go_enter Try.func73, Try.ntmps73
            go_wp2_with (first | ((with_reducible refine gate_dst (N := 1) rfl ?_); (try (refine gate_guard (by rfl) ?_; dsimp only)); refine box_event ?hg (N := 1) ?hd (cs := #[.int .i64 a0_0, .int .i64 a0_1, .int .i64 a0_2, .int .i64 a0_3, .int .i64 a0_4, .string a0_5]) (t := 52) ?hr ?_; (case hd => rfl); (case hg => rfl); (case hr => first | (go_simp; done) | (go_simp; rfl)); intro gb275 hg w29 hbox hb; have n0_ := Ak (below_step (by repeat (first | (with_reducible first | exact HB.out | apply below_alloc | apply pw_below_drewN | apply below_drew1) | exact HB.out)) hb); have n1_ := Ak (hbox); have n2_ := Ak ((by rw [hg]; exact (below_size (by repeat (first | (with_reducible first | exact HB.out | apply below_alloc | apply pw_below_drewN | apply below_drew1) | exact HB.out))) : w.heap.size ≤ gb275)); have n3_ := Ak ((by rw [hg]; exact (below_size (by repeat (first | (with_reducible first | exact HB.out | apply below_alloc | apply pw_below_drewN | apply below_drew1) | exact HB.out))) : w.heap.size ≤ gb275)); clear HB; have HB := n0_; have BK275 := n1_; have GW275 := n2_; have GE275 := n3_; clear n0_ n1_ n2_ n3_; clear hb hbox hg; have hcz30_0 : w29.cell? ⟨gb275, 0, none⟩ = some (.int .i64 a0_0) := (blk_cell BK275.out 0).trans rfl; have hcz30_1 : w29.cell? ⟨gb275, 1, none⟩ = some (.int .i64 a0_1) := (blk_cell BK275.out 1).trans rfl; have hcz30_2 : w29.cell? ⟨gb275, 2, none⟩ = some (.int .i64 a0_2) := (blk_cell BK275.out 2).trans rfl; have hcz30_3 : w29.cell? ⟨gb275, 3, none⟩ = some (.int .i64 a0_3) := (blk_cell BK275.out 3).trans rfl; have hcz30_4 : w29.cell? ⟨gb275, 4, none⟩ = some (.int .i64 a0_4) := (blk_cell BK275.out 4).trans rfl; have hcz30_5 : w29.cell? ⟨gb275, 5, none⟩ = some (.string a0_5) := (blk_cell BK275.out 5).trans rfl; have hfz30_0 := blk_frozen BK275.out 0; have hfz30_1 := blk_frozen BK275.out 1; have hfz30_2 := blk_frozen BK275.out 2; have hfz30_3 := blk_frozen BK275.out 3; have hfz30_4 := blk_frozen BK275.out 4; have hfz30_5 := blk_frozen BK275.out 5) | ((with_reducible refine gate_callee (f := 71) rfl ?_); refine goesL_ (some 5) rfl rfl Try.func71 (by kernel_rfl) rfl #[.int .i64 a0_0] rfl (by (try simp only [List.map_toArray, List.map_cons, List.map_nil]); first | done | rfl | (simp only [List.length_drop, List.length_take]; rfl)) ?_; (with_reducible refine (spec_l4Who.calls a0_0 true _ A2.out).mono ?_); rintro e w' ⟨rfl, ⟨nd, rfl⟩⟩; refine ⟨_, rfl, ?_⟩) | (go_at_call 75; (with_reducible refine (spec_TextOk.calls k a0_5 true _ A24.out).mono ?_); rintro e w' ⟨rfl, ⟨nd, rfl⟩⟩))
            go_ret
            exact ⟨by first | rfl | (simp [errW_none, errW_some] <;> rfl) | (simp [*, errW_none, errW_some] <;> rfl), by repeat (first | (with_reducible first | exact HB.out | apply below_alloc | apply pw_below_drewN | apply below_drew1 | refine below_set ?_ GE275.out) | exact HB.out)⟩
          ·replace c25 := Bool.eq_false_iff.mpr c25
           subst c25
           have H1 : (some false) = some r := by rw [if_neg (show ¬ (false = true) by decide)] at H; exact H
           clear H
           have H := H1
           clear H1
           obtain rfl := Option.some.inj H
           go_enter Try.func73, Try.ntmps73
           go_wp2_with (first | ((with_reducible refine gate_dst (N := 1) rfl ?_); (try (refine gate_guard (by rfl) ?_; dsimp only)); refine box_event ?hg (N := 1) ?hd (cs := #[.int .i64 a0_0, .int .i64 a0_1, .int .i64 a0_2, .int .i64 a0_3, .int .i64 a0_4, .string a0_5]) (t := 52) ?hr ?_; (case hd => rfl); (case hg => rfl); (case hr => first | (go_simp; done) | (go_simp; rfl)); intro gb275 hg w31 hbox hb; have n0_ := Ak (below_step (by repeat (first | (with_reducible first | exact HB.out | apply below_alloc | apply pw_below_drewN | apply below_drew1) | exact HB.out)) hb); have n1_ := Ak (hbox); have n2_ := Ak ((by rw [hg]; exact (below_size (by repeat (first | (with_reducible first | exact HB.out | apply below_alloc | apply pw_below_drewN | apply below_drew1) | exact HB.out))) : w.heap.size ≤ gb275)); have n3_ := Ak ((by rw [hg]; exact (below_size (by repeat (first | (with_reducible first | exact HB.out | apply below_alloc | apply pw_below_drewN | apply below_drew1) | exact HB.out))) : w.heap.size ≤ gb275)); clear HB; have HB := n0_; have BK275 := n1_; have GW275 := n2_; have GE275 := n3_; clear n0_ n1_ n2_ n3_; clear hb hbox hg; have hcz32_0 : w31.cell? ⟨gb275, 0, none⟩ = some (.int .i64 a0_0) := (blk_cell BK275.out 0).trans rfl; have hcz32_1 : w31.cell? ⟨gb275, 1, none⟩ = some (.int .i64 a0_1) := (blk_cell BK275.out 1).trans rfl; have hcz32_2 : w31.cell? ⟨gb275, 2, none⟩ = some (.int .i64 a0_2) := (blk_cell BK275.out 2).trans rfl; have hcz32_3 : w31.cell? ⟨gb275, 3, none⟩ = some (.int .i64 a0_3) := (blk_cell BK275.out 3).trans rfl; have hcz32_4 : w31.cell? ⟨gb275, 4, none⟩ = some (.int .i64 a0_4) := (blk_cell BK275.out 4).trans rfl; have hcz32_5 : w31.cell? ⟨gb275, 5, none⟩ = some (.string a0_5) := (blk_cell BK275.out 5).trans rfl; have hfz32_0 := blk_frozen BK275.out 0; have hfz32_1 := blk_frozen BK275.out 1; have hfz32_2 := blk_frozen BK275.out 2; have hfz32_3 := blk_frozen BK275.out 3; have hfz32_4 := blk_frozen BK275.out 4; have hfz32_5 := blk_frozen BK275.out 5) | ((with_reducible refine gate_callee (f := 71) rfl ?_); refine goesL_ (some 5) rfl rfl Try.func71 (by kernel_rfl) rfl #[.int .i64 a0_0] rfl (by (try simp only [List.map_toArray, List.map_cons, List.map_nil]); first | done | rfl | (simp only [List.length_drop, List.length_take]; rfl)) ?_; (with_reducible refine (spec_l4Who.calls a0_0 true _ A2.out).mono ?_); rintro e w' ⟨rfl, ⟨nd, rfl⟩⟩; refine ⟨_, rfl, ?_⟩) | (go_at_call 75; (with_reducible refine (spec_TextOk.calls k a0_5 false _ A24.out).mono ?_); rintro e w' ⟨rfl, ⟨nd, rfl⟩⟩))
           go_ret
           exact ⟨by first | rfl | (simp [errW_none, errW_some] <;> rfl) | (simp [*, errW_none, errW_some] <;> rfl), by repeat (first | (with_reducible first | exact HB.out | apply below_alloc | apply pw_below_drewN | apply below_drew1 | refine below_set ?_ GE275.out) | exact HB.out)⟩
         ·rw [if_neg c23] at H
          have c23b0 : decide (a0_4 ≤ 48) = false := decide_eq_false c23
          clear c23
          obtain rfl := Option.some.inj H
          go_enter Try.func73, Try.ntmps73
          go_wp2_with (first | ((with_reducible refine gate_dst (N := 1) rfl ?_); (try (refine gate_guard (by rfl) ?_; dsimp only)); refine box_event ?hg (N := 1) ?hd (cs := #[.int .i64 a0_0, .int .i64 a0_1, .int .i64 a0_2, .int .i64 a0_3, .int .i64 a0_4, .string a0_5]) (t := 52) ?hr ?_; (case hd => rfl); (case hg => rfl); (case hr => first | (go_simp; done) | (go_simp; rfl)); intro gb275 hg w33 hbox hb; have n0_ := Ak (below_step (by repeat (first | (with_reducible first | exact HB.out | apply below_alloc | apply pw_below_drewN | apply below_drew1) | exact HB.out)) hb); have n1_ := Ak (hbox); have n2_ := Ak ((by rw [hg]; exact (below_size (by repeat (first | (with_reducible first | exact HB.out | apply below_alloc | apply pw_below_drewN | apply below_drew1) | exact HB.out))) : w.heap.size ≤ gb275)); have n3_ := Ak ((by rw [hg]; exact (below_size (by repeat (first | (with_reducible first | exact HB.out | apply below_alloc | apply pw_below_drewN | apply below_drew1) | exact HB.out))) : w.heap.size ≤ gb275)); clear HB; have HB := n0_; have BK275 := n1_; have GW275 := n2_; have GE275 := n3_; clear n0_ n1_ n2_ n3_; clear hb hbox hg; have hcz34_0 : w33.cell? ⟨gb275, 0, none⟩ = some (.int .i64 a0_0) := (blk_cell BK275.out 0).trans rfl; have hcz34_1 : w33.cell? ⟨gb275, 1, none⟩ = some (.int .i64 a0_1) := (blk_cell BK275.out 1).trans rfl; have hcz34_2 : w33.cell? ⟨gb275, 2, none⟩ = some (.int .i64 a0_2) := (blk_cell BK275.out 2).trans rfl; have hcz34_3 : w33.cell? ⟨gb275, 3, none⟩ = some (.int .i64 a0_3) := (blk_cell BK275.out 3).trans rfl; have hcz34_4 : w33.cell? ⟨gb275, 4, none⟩ = some (.int .i64 a0_4) := (blk_cell BK275.out 4).trans rfl; have hcz34_5 : w33.cell? ⟨gb275, 5, none⟩ = some (.string a0_5) := (blk_cell BK275.out 5).trans rfl; have hfz34_0 := blk_frozen BK275.out 0; have hfz34_1 := blk_frozen BK275.out 1; have hfz34_2 := blk_frozen BK275.out 2; have hfz34_3 := blk_frozen BK275.out 3; have hfz34_4 := blk_frozen BK275.out 4; have hfz34_5 := blk_frozen BK275.out 5) | ((with_reducible refine gate_callee (f := 71) rfl ?_); refine goesL_ (some 5) rfl rfl Try.func71 (by kernel_rfl) rfl #[.int .i64 a0_0] rfl (by (try simp only [List.map_toArray, List.map_cons, List.map_nil]); first | done | rfl | (simp only [List.length_drop, List.length_take]; rfl)) ?_; (with_reducible refine (spec_l4Who.calls a0_0 true _ A2.out).mono ?_); rintro e w' ⟨rfl, ⟨nd, rfl⟩⟩; refine ⟨_, rfl, ?_⟩))
          go_ret
          exact ⟨by first | rfl | (simp [errW_none, errW_some] <;> rfl) | (simp [*, errW_none, errW_some] <;> rfl), by repeat (first | (with_reducible first | exact HB.out | apply below_alloc | apply pw_below_drewN | apply below_drew1 | refine below_set ?_ GE275.out) | exact HB.out)⟩
        ·rw [if_neg c22] at H
         have c22b0 : decide (0 ≤ a0_4) = false := decide_eq_false c22
         clear c22
         obtain rfl := Option.some.inj H
         go_enter Try.func73, Try.ntmps73
         go_wp2_with (first | ((with_reducible refine gate_dst (N := 1) rfl ?_); (try (refine gate_guard (by rfl) ?_; dsimp only)); refine box_event ?hg (N := 1) ?hd (cs := #[.int .i64 a0_0, .int .i64 a0_1, .int .i64 a0_2, .int .i64 a0_3, .int .i64 a0_4, .string a0_5]) (t := 52) ?hr ?_; (case hd => rfl); (case hg => rfl); (case hr => first | (go_simp; done) | (go_simp; rfl)); intro gb275 hg w35 hbox hb; have n0_ := Ak (below_step (by repeat (first | (with_reducible first | exact HB.out | apply below_alloc | apply pw_below_drewN | apply below_drew1) | exact HB.out)) hb); have n1_ := Ak (hbox); have n2_ := Ak ((by rw [hg]; exact (below_size (by repeat (first | (with_reducible first | exact HB.out | apply below_alloc | apply pw_below_drewN | apply below_drew1) | exact HB.out))) : w.heap.size ≤ gb275)); have n3_ := Ak ((by rw [hg]; exact (below_size (by repeat (first | (with_reducible first | exact HB.out | apply below_alloc | apply pw_below_drewN | apply below_drew1) | exact HB.out))) : w.heap.size ≤ gb275)); clear HB; have HB := n0_; have BK275 := n1_; have GW275 := n2_; have GE275 := n3_; clear n0_ n1_ n2_ n3_; clear hb hbox hg; have hcz36_0 : w35.cell? ⟨gb275, 0, none⟩ = some (.int .i64 a0_0) := (blk_cell BK275.out 0).trans rfl; have hcz36_1 : w35.cell? ⟨gb275, 1, none⟩ = some (.int .i64 a0_1) := (blk_cell BK275.out 1).trans rfl; have hcz36_2 : w35.cell? ⟨gb275, 2, none⟩ = some (.int .i64 a0_2) := (blk_cell BK275.out 2).trans rfl; have hcz36_3 : w35.cell? ⟨gb275, 3, none⟩ = some (.int .i64 a0_3) := (blk_cell BK275.out 3).trans rfl; have hcz36_4 : w35.cell? ⟨gb275, 4, none⟩ = some (.int .i64 a0_4) := (blk_cell BK275.out 4).trans rfl; have hcz36_5 : w35.cell? ⟨gb275, 5, none⟩ = some (.string a0_5) := (blk_cell BK275.out 5).trans rfl; have hfz36_0 := blk_frozen BK275.out 0; have hfz36_1 := blk_frozen BK275.out 1; have hfz36_2 := blk_frozen BK275.out 2; have hfz36_3 := blk_frozen BK275.out 3; have hfz36_4 := blk_frozen BK275.out 4; have hfz36_5 := blk_frozen BK275.out 5) | ((with_reducible refine gate_callee (f := 71) rfl ?_); refine goesL_ (some 5) rfl rfl Try.func71 (by kernel_rfl) rfl #[.int .i64 a0_0] rfl (by (try simp only [List.map_toArray, List.map_cons, List.map_nil]); first | done | rfl | (simp only [List.length_drop, List.length_take]; rfl)) ?_; (with_reducible refine (spec_l4Who.calls a0_0 true _ A2.out).mono ?_); rintro e w' ⟨rfl, ⟨nd, rfl⟩⟩; refine ⟨_, rfl, ?_⟩))
         go_ret
         exact ⟨by first | rfl | (simp [errW_none, errW_some] <;> rfl) | (simp [*, errW_none, errW_some] <;> rfl), by repeat (first | (with_reducible first | exact HB.out | apply below_alloc | apply pw_below_drewN | apply below_drew1 | refine below_set ?_ GE275.out) | exact HB.out)⟩
 ·replace c3 := Bool.eq_false_iff.mpr c3
  subst c3
  have H1 : (some false) = some r := by rw [if_neg (show ¬ (false = true) by decide)] at H; exact H
  clear H
  have H := H1
  clear H1
  obtain rfl := Option.some.inj H
  go_enter Try.func73, Try.ntmps73
  go_wp2_with (first | ((with_reducible refine gate_dst (N := 1) rfl ?_); (try (refine gate_guard (by rfl) ?_; dsimp only)); refine box_event ?hg (N := 1) ?hd (cs := #[.int .i64 a0_0, .int .i64 a0_1, .int .i64 a0_2, .int .i64 a0_3, .int .i64 a0_4, .string a0_5]) (t := 52) ?hr ?_; (case hd => rfl); (case hg => rfl); (case hr => first | (go_simp; done) | (go_simp; rfl)); intro gb275 hg w37 hbox hb; have n0_ := Ak (below_step (by repeat (first | (with_reducible first | exact HB.out | apply below_alloc | apply pw_below_drewN | apply below_drew1) | exact HB.out)) hb); have n1_ := Ak (hbox); have n2_ := Ak ((by rw [hg]; exact (below_size (by repeat (first | (with_reducible first | exact HB.out | apply below_alloc | apply pw_below_drewN | apply below_drew1) | exact HB.out))) : w.heap.size ≤ gb275)); have n3_ := Ak ((by rw [hg]; exact (below_size (by repeat (first | (with_reducible first | exact HB.out | apply below_alloc | apply pw_below_drewN | apply below_drew1) | exact HB.out))) : w.heap.size ≤ gb275)); clear HB; have HB := n0_; have BK275 := n1_; have GW275 := n2_; have GE275 := n3_; clear n0_ n1_ n2_ n3_; clear hb hbox hg; have hcz38_0 : w37.cell? ⟨gb275, 0, none⟩ = some (.int .i64 a0_0) := (blk_cell BK275.out 0).trans rfl; have hcz38_1 : w37.cell? ⟨gb275, 1, none⟩ = some (.int .i64 a0_1) := (blk_cell BK275.out 1).trans rfl; have hcz38_2 : w37.cell? ⟨gb275, 2, none⟩ = some (.int .i64 a0_2) := (blk_cell BK275.out 2).trans rfl; have hcz38_3 : w37.cell? ⟨gb275, 3, none⟩ = some (.int .i64 a0_3) := (blk_cell BK275.out 3).trans rfl; have hcz38_4 : w37.cell? ⟨gb275, 4, none⟩ = some (.int .i64 a0_4) := (blk_cell BK275.out 4).trans rfl; have hcz38_5 : w37.cell? ⟨gb275, 5, none⟩ = some (.string a0_5) := (blk_cell BK275.out 5).trans rfl; have hfz38_0 := blk_frozen BK275.out 0; have hfz38_1 := blk_frozen BK275.out 1; have hfz38_2 := blk_frozen BK275.out 2; have hfz38_3 := blk_frozen BK275.out 3; have hfz38_4 := blk_frozen BK275.out 4; have hfz38_5 := blk_frozen BK275.out 5) | ((with_reducible refine gate_callee (f := 71) rfl ?_); refine goesL_ (some 5) rfl rfl Try.func71 (by kernel_rfl) rfl #[.int .i64 a0_0] rfl (by (try simp only [List.map_toArray, List.map_cons, List.map_nil]); first | done | rfl | (simp only [List.length_drop, List.length_take]; rfl)) ?_; (with_reducible refine (spec_l4Who.calls a0_0 false _ A2.out).mono ?_); rintro e w' ⟨rfl, ⟨nd, rfl⟩⟩; refine ⟨_, rfl, ?_⟩))
  go_ret
  exact ⟨by first | rfl | (simp [errW_none, errW_some] <;> rfl) | (simp [*, errW_none, errW_some] <;> rfl), by repeat (first | (with_reducible first | exact HB.out | apply below_alloc | apply pw_below_drewN | apply below_drew1 | refine below_set ?_ GE275.out) | exact HB.out)⟩
end Go.Proofs.Ytmekkapacbdbeaa.P
namespace Go.Proofs.Ytmekkapacbdbeaa.P
open Go.RowKit Go.Proofs.YtmekkapacbdbeaaW.PrintWords Go.Proofs.YtmekkapacbdbeaaW.PrintLast Go.Proofs.YtmekkapacbdbeaaW.PrintMore
attribute [local go_sem] max2_int min2_int max_two min_two max_three min_three max_four min_four   
set_option linter.unusedVariables false
set_option linter.unusedSimpArgs false
end Go.Proofs.Ytmekkapacbdbeaa.P
namespace Go.Proofs.Ytmekkapacbdbeaa.P
open Go.RowKit Go.Proofs.YtmekkapacbdbeaaW.PrintWords Go.Proofs.YtmekkapacbdbeaaW.PrintLast Go.Proofs.YtmekkapacbdbeaaW.PrintMore
theorem ba_ext {a b : ByteArray} (h : a.data.toList = b.data.toList) : a = b := by
 obtain ⟨⟨a⟩⟩ := a
 obtain ⟨⟨b⟩⟩ := b
 simpa using h
theorem ba_app (a b : ByteArray) : (a ++ b).data.toList = a.data.toList ++ b.data.toList := by simp [ByteArray.data_append]
theorem ba_ex (a : ByteArray) (i j : Nat) : (a.extract i j).data.toList = (a.data.toList.drop i).take (j - i) := by
 simp [ByteArray.data_extract, Array.toList_extract, List.extract_eq_take_drop]
theorem ba_size (a : ByteArray) : a.data.toList.length = a.size := Array.length_toList
theorem ba_dots (n : Nat) : (dots n).data.toList = List.replicate n 46 := by simp [dots]
theorem dots_size (n : Nat) : (dots n).size = n := by rw [← ba_size, ba_dots]; simp
theorem dots_zero (t : ByteArray) : t ++ dots 0 = t := ba_ext (by rw [ba_app, ba_dots]; simp)
theorem dots_succ (t : ByteArray) (n : Nat) : t ++ (⟨#[46]⟩ : ByteArray) ++ dots n = t ++ dots (n + 1) := ba_ext (by
 rw [ba_app, ba_app, ba_app, ba_dots, ba_dots, List.append_assoc]
 rfl)
theorem app_size (a b : ByteArray) : (a ++ b).size = a.size + b.size := ByteArray.size_append
def writeText (t : ByteArray) (i : Nat) (d : ByteArray) : ByteArray := ((t ++ dots (i - t.size)).extract 0 i ++ d) ++ t.extract (min (i + d.size) t.size) t.size
theorem l2Long_loop (n : Nat) : ∀ d (t : ByteArray), t.size + d = n → n ≤ 4096 → Ev (fun k => spec_l2Long.l0 k t (n : Int)) (t ++ dots d)
 | 0, t, h, hn => by
  rw [dots_zero]
  refine Ev.step (f := fun _ => some t) (fun k => ?_) (Ev.now _)
  show spec_l2Long.l0 (k + 1) t (n : Int) = _
  rw [spec_l2Long.l0, if_neg (by omega)]
 | d + 1, t, h, hn => by
  have hs : (t ++ (⟨#[46]⟩ : ByteArray)).size = t.size + 1 := app_size _ _
  refine Ev.step (f := fun k => spec_l2Long.l0 k (t ++ (⟨#[46]⟩ : ByteArray)) (n : Int)) (fun k => ?_) ?_
  ·show spec_l2Long.l0 (k + 1) t (n : Int) = _
   rw [spec_l2Long.l0, if_pos (by omega), if_pos (by omega)]
  ·have := l2Long_loop n d (t ++ (⟨#[46]⟩ : ByteArray)) (by rw [hs]; omega) hn
   rw [dots_succ] at this
   exact this
theorem spec_l2Long_ev {t : ByteArray} {n : Nat} (hn : n ≤ 4096) : Ev (fun k => spec_l2Long.f k t (n : Int)) (t ++ dots (n - t.size)) := by
 unfold spec_l2Long.f
 by_cases h : t.size ≤ n
 ·exact l2Long_loop n (n - t.size) t (by omega) hn
 ·rw [show n - t.size = 0 by omega, dots_zero]
  refine Ev.step (f := fun _ => some t) (fun k => ?_) (Ev.now _)
  show spec_l2Long.l0 (k + 1) t (n : Int) = _
  rw [spec_l2Long.l0, if_neg (by omega)]
theorem ex_size (a : ByteArray) (i j : Nat) : (a.extract i j).size = min j a.size - i := ByteArray.size_extract
theorem l1Min_eq (x y : Int) : spec_l1Min.f x y = some (if x < y then x else y) := by
 unfold spec_l1Min.f
 split <;> rfl
theorem spec_l2Write_ev {t d : ByteArray} {i : Nat} (hi : i ≤ 48) (hd : d.size ≤ 48) (ht : t.size ≤ 4096) : Ev (fun k => spec_l2Write.f k t (i : Int) d) (writeText t i d) := by
 unfold spec_l2Write.f
 refine Ev.bind (spec_l2Long_ev (by omega)) ?_
 have hL : (t ++ dots (i - t.size)).size = max t.size i := by rw [app_size, dots_size]; omega
 refine Ev.congr (f := fun _ => some (writeText t i d)) (fun k => ?_) (Ev.now _)
 rw [if_pos (by omega), if_pos (by rw [hL]; omega), if_pos (by rw [ex_size, hL]; omega), l1Min_eq, Option.bind_some, w64 (by omega) (by omega), hL, Int.toNat_natCast]
 have hq : (if ((max t.size i : Nat) : Int) < (i : Int) + (d.size : Int) then ((max t.size i : Nat) : Int) else (i : Int) + (d.size : Int)) = ((min (max t.size i) (i + d.size) : Nat) : Int) := by split <;> omega
 rw [hq, if_pos (by omega), if_pos (by omega), if_pos (by rw [app_size, ex_size, ex_size, hL]; omega), Int.toNat_natCast]
 congr 1
 unfold writeText
 refine congrArg (fun z => ((t ++ dots (i - t.size)).extract 0 i ++ d) ++ z) (ba_ext ?_)
 rw [ba_ex, ba_ex, ba_app, ba_dots]
 have hs := ba_size t
 by_cases h : i + d.size ≤ t.size
 ·rw [show i - t.size = 0 by omega, show max t.size i = t.size by omega, Nat.min_comm]
  simp
 ·rw [show min (i + d.size) t.size = t.size by omega, show min (max t.size i) (i + d.size) = max t.size i by omega]
  simp
def writeOk (i : Int) (d : ByteArray) : Bool := decide (0 ≤ i) && (decide (i ≤ 48) && (!decide (d.size = 0) && (textOk d && decide (i + d.size ≤ 48))))
theorem writeOk_iff {i : Int} {d : ByteArray} : writeOk i d = true ↔ 0 ≤ i ∧ i ≤ 48 ∧ d.size ≠ 0 ∧ textOk d = true ∧ i + d.size ≤ 48 := by simp [writeOk]
structure Rq where
 who : Int
 epoch : Int
 num : Int
 obj : Int
 at_ : Int
 data : ByteArray
deriving DecidableEq
def reqOk (q : Rq) : Bool := whoOk q.who && (decide (0 ≤ q.epoch) && (decide (q.epoch ≤ 100) && (decide (1 ≤ q.num) && (decide (q.num ≤ 1000) && (decide (0 ≤ q.obj) && (decide (q.obj < 3) && writeOk q.at_ q.data))))))
theorem reqOk_iff {q : Rq} : reqOk q = true ↔ whoOk q.who = true ∧ 0 ≤ q.epoch ∧ q.epoch ≤ 100 ∧ 1 ≤ q.num ∧ q.num ≤ 1000 ∧ 0 ≤ q.obj ∧ q.obj < 3 ∧ writeOk q.at_ q.data = true := by simp [reqOk]
theorem spec_l5Req_ev {q : Rq} (hd : q.data.size ≤ 9223372036854775807) : Ev (fun k => spec_l5Req.f k q.who q.epoch q.num q.obj q.at_ q.data) (reqOk q) := by
 unfold spec_l5Req.f
 have hw : spec_l4Who.f q.who = some (whoOk q.who) := who_eq q.who
 rw [hw]
 simp only [Option.bind_some]
 have no : ∀ {x : Bool}, (reqOk q = true → x = true → False) → (x = true) → Ev (fun _ : Nat => some false) (reqOk q) := fun h hx => by
  cases hr : reqOk q
  ·exact Ev.now _
  ·exact (h hr hx).elim
 by_cases h0 : whoOk q.who = true
 case neg => rw [show (fun k => _) = (fun _ : Nat => some false) from funext fun k => if_neg h0]; exact no (x := true) (fun h _ => h0 (reqOk_iff.1 h).1) rfl
 simp only [if_pos h0]
 by_cases h1 : q.epoch < 0
 ·simp only [if_pos h1]; exact no (x := true) (fun h _ => by have := reqOk_iff.1 h; omega) rfl
 simp only [if_neg h1]
 by_cases h2 : q.epoch > 100
 ·simp only [if_pos h2]; exact no (x := true) (fun h _ => by have := reqOk_iff.1 h; omega) rfl
 simp only [if_neg h2]
 by_cases h3 : q.num < 1
 ·simp only [if_pos h3]; exact no (x := true) (fun h _ => by have := reqOk_iff.1 h; omega) rfl
 simp only [if_neg h3]
 by_cases h4 : q.num > 1000
 ·simp only [if_pos h4]; exact no (x := true) (fun h _ => by have := reqOk_iff.1 h; omega) rfl
 simp only [if_neg h4]
 by_cases h5 : q.obj < 0
 ·simp only [if_pos h5]; exact no (x := true) (fun h _ => by have := reqOk_iff.1 h; omega) rfl
 simp only [if_neg h5]
 by_cases h6 : q.obj ≥ 3
 ·simp only [if_pos h6]; exact no (x := true) (fun h _ => by have := reqOk_iff.1 h; omega) rfl
 simp only [if_neg h6]
 by_cases h7 : q.at_ ≥ 0
 case neg => simp only [if_neg h7]; exact no (x := true) (fun h _ => by have := writeOk_iff.1 (reqOk_iff.1 h).2.2.2.2.2.2.2; omega) rfl
 simp only [if_pos h7]
 by_cases h8 : q.at_ ≤ 48
 case neg => simp only [if_neg h8]; exact no (x := true) (fun h _ => by have := writeOk_iff.1 (reqOk_iff.1 h).2.2.2.2.2.2.2; omega) rfl
 simp only [if_pos h8]
 refine Ev.bind (spec_TextOk_ev hd) ?_
 cases h9 : textOk q.data
 ·exact no (x := true) (fun h _ => by have := (writeOk_iff.1 (reqOk_iff.1 h).2.2.2.2.2.2.2).2.2.2.1; rw [h9] at this; cases this) rfl
 simp only [if_true]
 have hz : q.data.size ≤ 48 := by simp [textOk] at h9; exact h9.2
 by_cases h10 : q.data.toList = []
 ·simp only [if_pos h10]; exact no (x := true) (fun h _ => (writeOk_iff.1 (reqOk_iff.1 h).2.2.2.2.2.2.2).2.2.1 (toList_nil.1 h10)) rfl
 simp only [if_neg h10]
 rw [w64 (by omega) (by omega)]
 have : reqOk q = decide (q.at_ + (q.data.size : Int) ≤ 48) := by
  rw [Bool.eq_iff_iff, reqOk_iff, writeOk_iff, decide_eq_true_eq]
  exact ⟨fun h => by omega, fun h => ⟨h0, by omega, by omega, by omega, by omega, by omega, by omega, by omega, by omega, fun e => h10 (toList_nil.2 e), h9, h⟩⟩
 rw [this]
 exact Ev.now _
end Go.Proofs.Ytmekkapacbdbeaa.P
namespace Go.Proofs.Ytmekkapacbdbeaa.P
open Go.RowKit Go.Proofs.YtmekkapacbdbeaaW.PrintWords Go.Proofs.YtmekkapacbdbeaaW.PrintLast Go.Proofs.YtmekkapacbdbeaaW.PrintMore
section
variable {w : World} {who ep num obj at_ : Int} {data r t : ByteArray} {b : Bool}
theorem spec_l5Req_c (hd : data.size ≤ 9223372036854775807) (hq : reqOk ⟨who, ep, num, obj, at_, data⟩ = b) :
  Calls Try.prog 73 #[.agg #[.int .i64 who, .int .i64 ep, .int .i64 num, .int .i64 obj, .int .i64 at_, .string data]] w fun e w' => e = .returned (.bool b) ∧ Below w.heap.size w w' := by
 obtain ⟨k, hk⟩ := (spec_l5Req_ev (q := ⟨who, ep, num, obj, at_, data⟩) hd).rounds
 rw [hq] at hk
 exact spec_l5Req.calls k who ep num obj at_ data b w hk
theorem textOk_size {t : ByteArray} (h : textOk t = true) : t.size ≤ 48 := by
 simp [textOk] at h
 exact h.2
theorem spec_l2Write_c (hq : reqOk ⟨who, ep, num, obj, at_, data⟩ = true) (ht : textOk t = true) (hr : writeText t at_.toNat data = r) :
  Calls Try.prog 74 #[.string t, .int .i64 at_, .string data] w fun e w' => e = .returned (.string r) ∧ Below w.heap.size w w' := by
 obtain ⟨h1, h2, h3, h4, h5⟩ := writeOk_iff.1 (reqOk_iff.1 hq).2.2.2.2.2.2.2
 have h1 : 0 ≤ at_ := h1
 have h2 : at_ ≤ 48 := h2
 have h5 : at_ + (data.size : Int) ≤ 48 := h5
 obtain ⟨n, rfl⟩ := Int.eq_ofNat_of_zero_le h1
 obtain ⟨k, hk⟩ := (spec_l2Write_ev (t := t) (d := data) (i := n) (by omega) (by omega) (by have := textOk_size ht; omega)).rounds
 rw [Int.toNat_natCast] at hr
 rw [hr] at hk
 exact (spec_l2Write.calls k t n data r w hk).mono fun _ _ ⟨e, h⟩ => ⟨e, h.below⟩
end
end Go.Proofs.Ytmekkapacbdbeaa.P

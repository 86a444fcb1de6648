/- Part 3 of the proof of FnExactStoreOk: words, contracts of callees, plain lemmas. -/
import Derived.Test.YtolmblfffnnabaaZStoreOk2
namespace Go.Proofs.Ytolmblfffnnabaa.P
open Go.RowKit Go.Proofs.YtolmblfffnnabaaW.PrintWords Go.Proofs.YtolmblfffnnabaaW.PrintLast
def Bk (w : World) (g : Nat) (cs : Array Value) (t : TypeId) : Prop := w.heap[g]? = some (.cells cs t (0, 0))
theorem Bk.below {w w1 : World} {g : Nat} {cs : Array Value} {t : TypeId} (h : Bk w g cs t) (hb : Below w.heap.size w w1) : Bk w1 g cs t := blk_below h hb
theorem Bk.cell {w : World} {g : Nat} {cs : Array Value} {t : TypeId} (h : Bk w g cs t) (i : Nat) : w.cell? ⟨g, i, none⟩ = cs[i]? := blk_cell h i
section
variable {P : Program} {ops : Array Oper} {rest : List Oper} {o : Oper} {a : Act} {Q : Exit → Act → World → Prop} {w W : World}
theorem ev_box (hgd : o.guard = none) {N : Tmp} (hd : o.dst = some N) {cs : Array Value} {t : TypeId}
    (hrun : (execOp a.eval o).run P W = .ok (.value (.pointer (some ⟨W.heap.size, 0, none⟩))) (W.alloc (.cells cs t (0, 0))))
    (h : ∀ g w1, Aside0 (g = W.heap.size) → Aside0 (Bk w1 g cs t) → Aside0 (Below W.heap.size W w1) → wpList P ops Q rest (a.put o.dst (.pointer (some ⟨g, 0, none⟩))) w1) : wpList P ops Q (o :: rest) a W :=
  box_event hgd hd hrun fun g hg w1 hb hbelow => h g w1 ⟨hg⟩ ⟨hb⟩ ⟨hbelow⟩
theorem ev_load (hgd : o.guard = none) {N : Tmp} (_hd : o.dst = some N) {ty : TypeId} {x : Operand} (ho : o.op = .load ty x) {g : Nat} (hx : a.eval x = .pointer (some ⟨g, 0, none⟩)) {t : TypeId} {cs : Array Value} (hg : Bk w g cs t) {d : TypeDesc}
    (hu : P.underlying ty = some d) (hd : (match d with | .struct _ | .array _ _ => true | _ => false) = true) (hi : (P.info? ty).map (·.size) = some cs.size)
    (h : wpList P ops Q rest (a.put o.dst (.agg cs)) w) : wpList P ops Q (o :: rest) a w :=
  wpList_load_row hgd ty x ho g hx t cs (0, 0) d hg hu hd hi h
theorem ev_store (hgd : o.guard = none) (hN : o.dst = none) {ty : TypeId} {p : Tmp} {y : Operand} (ho : o.op = .store ty (.tmp p) y) {g : Nat} (hx : a.eval (.tmp p) = .pointer (some ⟨g, 0, none⟩)) {cs : Array Value} (hy : a.eval y = .agg cs)
    {t : TypeId} {old : Array Value} (hg : Bk w g old t) (hi : (P.info? ty).map (·.size) = some cs.size) (hold : old.size = cs.size) (h1 : cs.toList.all (·.oneCell') = true)
    (h : ∀ w1, Aside0 (Bk w1 g cs t) → Aside0 (Below g w w1) → wpList P ops Q rest a w1) : wpList P ops Q (o :: rest) a w := by
  refine wpList_plain hgd fun K hK => ?_
  refine wp_store_row ty (.tmp p) y ho g cs hx hy t old hg hi hold (by rw [← Array.all_toList]; exact h1) ?_
  rw [hN]
  exact hK _ _ (h _ ⟨setRow_heap w g old cs t (0, 0) hg⟩ ⟨⟨rfl, rfl, rfl, by simp [World.setRow], fun k hk => setRow_other w g k _ (by omega)⟩⟩)
theorem run_load_ev {ev : Operand → Value} {ty : TypeId} {x : Operand} (ho : o.op = .load ty x) {g : Nat} (hx : ev x = .pointer (some ⟨g, 0, none⟩)) {t : TypeId} {cs : Array Value} (hg : Bk w g cs t) {d : TypeDesc}
    (hu : P.underlying ty = some d) (hd : (match d with | .struct _ | .array _ _ => true | _ => false) = true) (hi : (P.info? ty).map (·.size) = some cs.size) : (execOp ev o).run P w = .ok (.value (.agg cs)) w := by
  unfold execOp
  simp only [ho, hx, Instr.loadAt, Instr.sureAddr, Sem.run_bind, Sem.run_pure, Result.andThen_ok, run_loadVar_row w g t ty cs (0, 0) d hg hu hd hi]
end
theorem below_new {w w1 w2 : World} {g : Nat} (hg : g = w.heap.size) (h1 : Below w.heap.size w w1) (h2 : Below g w1 w2) : Below w.heap.size w w2 := by
  subst hg
  exact h1.trans h2
theorem world_at {Q : World → Prop} {w W0 : World} (hb : Below w.heap.size w W0) (h : ∀ W, Aside0 (Below w.heap.size w W) → Q W) : Q W0 := h W0 ⟨hb⟩
theorem below_drew0 (w : World) : Below w.heap.size w w.drew := below_drew1 (Below.refl _ _)
end Go.Proofs.Ytolmblfffnnabaa.P
namespace Go.Proofs.Ytolmblfffnnabaa.P
open Go.RowKit Go.Proofs.YtolmblfffnnabaaW.PrintWords Go.Proofs.YtolmblfffnnabaaW.PrintLast Go.Proofs.YtolmblfffnnabaaW.PrintMore
set_option linter.unusedVariables false
set_option linter.unusedSimpArgs false
set_option maxHeartbeats 4000000 in
set_option maxRecDepth 100000 in
theorem FnExactStoreOk_walk {w : World} {v : Value} {s : St} (hv : StC w v s) (hz : Sized s) :
    Calls Try.prog 5 #[v] w fun e w' => e = .returned (.bool true) ∧ Below w.heap.size w w' := by
  have HV := Aside0.mk hv
  have HZ := Aside0.mk hz
  obtain ⟨A0, c0, A1, c1, A2, c2, A3, c3, A4, c4, rfl, _⟩ := hv
  clear hz
  have hu30 := Try.underlying30
  have hu25 := Try.underlying25
  go_enter Try.func5, Try.ntmps5
  go_wp2_with (first | ((with_reducible refine gate_dst (N := 1) rfl ?_); refine ev_box ?hg (N := 1) ?hd (cs := #[.slice A0 s.now.length c0, .slice A1 s.sure.length c1, .slice A2 s.last.length c2, .slice A3 s.slast.length c3, .slice A4 s.floors.length c4]) (t := 30) ?hr ?_; (case hd => rfl); (case hg => rfl); (case hr => first | (go_simp; done) | (go_simp; rfl)); intro g1 W1 HG4 BK2 HB3) | ((with_reducible refine gate_dst (N := 7) rfl ?_); refine ev_load rfl (N := 7) rfl rfl (g := g1) rfl (cs := #[.slice A0 s.now.length c0, .slice A1 s.sure.length c1, .slice A2 s.last.length c2, .slice A3 s.slast.length c3, .slice A4 s.floors.length c4]) BK2.out hu30 rfl (by kernel_rfl) ?_))
  refine (szStore_c (StC.below HV.out HB3.out) HZ.out (by omega) (by omega)).mono ?_
  rintro e W5 ⟨r, rfl, _, _, hr, hb7⟩
  have HB6 := Aside0.mk hb7
  clear hb7
  by_cases hc : r < 0
  · have hc1 : decide (r < 0) = true := decide_eq_true hc
    go_wp2
    go_ret
    exact ⟨rfl, (below_step HB3.out HB6.out)⟩
  have hc1 : decide (r < 0) = false := decide_eq_false hc
  have HS := Aside0.mk (hr (by omega))
  clear hr hc
  go_wp2_with (first | ((with_reducible refine gate_dst (N := 12) rfl ?_); refine ev_load rfl (N := 12) rfl rfl (g := g1) rfl (cs := #[.slice A0 s.now.length c0, .slice A1 s.sure.length c1, .slice A2 s.last.length c2, .slice A3 s.slast.length c3, .slice A4 s.floors.length c4]) (Bk.below BK2.out HB6.out) hu30 rfl (by kernel_rfl) ?_))
  refine (toStore_c (StC.below HV.out (below_step HB3.out HB6.out)) HS.out).mono ?_
  rintro e W8 ⟨u2, rfl, hr2, hb10⟩
  have HB9 := Aside0.mk hb10
  clear hb10
  have HR2 := Aside0.mk hr2
  obtain ⟨a2_0, d2_0, a2_1, d2_1, a2_2, d2_2, a2_3, d2_3, a2_4, d2_4, rfl, _⟩ := hr2.toC
  clear hr2
  go_wp2_with (fail)
  refine (spec_StoreOk_c (StR.toC HR2.out) HZ.out).mono ?_
  rintro e W11 ⟨rfl, hb13⟩
  have HB12 := Aside0.mk hb13
  clear hb13
  generalize hq : stOk s = q
  have HQ := Aside0.mk hq
  clear hq
  go_wp2_with (first | ((with_reducible refine gate_dst (N := 15) rfl ?_); refine ev_load rfl (N := 15) rfl rfl (g := g1) rfl (cs := #[.slice A0 s.now.length c0, .slice A1 s.sure.length c1, .slice A2 s.last.length c2, .slice A3 s.slast.length c3, .slice A4 s.floors.length c4]) (Bk.below BK2.out (below_step (below_step HB6.out HB9.out) HB12.out)) hu30 rfl (by kernel_rfl) ?_))
  refine (toStore_c (StC.below HV.out (below_step (below_step (below_step HB3.out HB6.out) HB9.out) HB12.out)) HS.out).mono ?_
  rintro e W14 ⟨u3, rfl, hr3, hb16⟩
  have HB15 := Aside0.mk hb16
  clear hb16
  have HR3 := Aside0.mk hr3
  obtain ⟨a3_0, d3_0, a3_1, d3_1, a3_2, d3_2, a3_3, d3_3, a3_4, d3_4, rfl, _⟩ := hr3.toC
  clear hr3
  go_wp2_with (first | ((with_reducible refine gate_dst (N := 5) rfl ?_); refine ev_box ?hg (N := 5) ?hd (cs := #[.slice none 0 0, .slice none 0 0, .slice none 0 0, .slice none 0 0, .slice none 0 0]) (t := 25) ?hr ?_; (case hd => rfl); (case hg => rfl); (case hr => first | (go_simp; done) | (go_simp; rfl)); intro g5 W17 HG20 BK18 HB19) | ((with_reducible refine gate_store (t := 25) (p := 5) rfl ?_); refine ev_store rfl rfl rfl (g := g5) rfl (cs := #[.slice a3_0 s.now.length d3_0, .slice a3_1 s.sure.length d3_1, .slice a3_2 s.last.length d3_2, .slice a3_3 s.slast.length d3_3, .slice a3_4 s.floors.length d3_4]) rfl BK18.out (by kernel_rfl) rfl rfl ?_; intro W21 BK22 HB23; have HB24 := Aside0.mk (below_new HG20.out HB19.out HB23.out); clear BK18 HB19 HB23) | ((with_reducible refine gate_dst (N := 17) rfl ?_); refine ev_load rfl (N := 17) rfl rfl (g := g5) rfl (cs := #[.slice a3_0 s.now.length d3_0, .slice a3_1 s.sure.length d3_1, .slice a3_2 s.last.length d3_2, .slice a3_3 s.slast.length d3_3, .slice a3_4 s.floors.length d3_4]) BK22.out hu25 rfl (by kernel_rfl) ?_))
  refine (impl_StoreOk_c (StR.toC (StR.below HR3.out HB24.out)) HZ.out).mono ?_
  rintro e W25 ⟨rfl, hb27⟩
  have HB26 := Aside0.mk hb27
  clear hb27
  rw [HQ.out]
  have hq1 : (q != q) = false := by simp
  have hq2 : decide (q = q) = true := by simp
  have hq3 : (q == q) = true := by simp
  go_wp2_with (fail)
  refine start_ (n := 5) (S := fun w' => Bk w' g5 #[.slice a3_0 s.now.length d3_0, .slice a3_1 s.sure.length d3_1, .slice a3_2 s.last.length d3_2, .slice a3_3 s.slast.length d3_3, .slice a3_4 s.floors.length d3_4] 25 ∧ Bk w' g1 #[.slice A0 s.now.length c0, .slice A1 s.sure.length c1, .slice A2 s.last.length c2, .slice A3 s.slast.length c3, .slice A4 s.floors.length c4] 30) (ds := []) #[false, false, false, false, false] (by kernel_rfl) rfl rfl ⟨(show Bk W25 g5 #[.slice a3_0 s.now.length d3_0, .slice a3_1 s.sure.length d3_1, .slice a3_2 s.last.length d3_2, .slice a3_3 s.slast.length d3_3, .slice a3_4 s.floors.length d3_4] 25 from (Bk.below BK22.out HB26.out)), (show Bk W25 g1 #[.slice A0 s.now.length c0, .slice A1 s.sure.length c1, .slice A2 s.last.length c2, .slice A3 s.slast.length c3, .slice A4 s.floors.length c4] 30 from (Bk.below BK2.out (below_step (below_step (below_step (below_step (below_step HB6.out HB9.out) HB12.out) HB15.out) HB24.out) HB26.out)))⟩ (fun hHeld => ?_)
  clear hHeld
  refine world_at (w := W25) (below_drew0 _) (fun W28 HB29 => ?_)
  refine take_ (i := 0) (N := some 22) (v := .agg #[.slice a3_0 s.now.length d3_0, .slice a3_1 s.sure.length d3_1, .slice a3_2 s.last.length d3_2, .slice a3_3 s.slast.length d3_3, .slice a3_4 s.floors.length d3_4]) (a' := ?_) #[true, false, false, false, false] rfl rfl (by kernel_rfl) (fun _ _ _ h => h) (Or.inl ⟨by rfl, ?_⟩) ⟨(Bk.below BK22.out (below_step HB26.out HB29.out)), (Bk.below BK2.out (below_step (below_step (below_step (below_step (below_step (below_step HB6.out HB9.out) HB12.out) HB15.out) HB24.out) HB26.out) HB29.out))⟩ ?_ ?_
  · rintro w' ⟨s0, s1⟩
    exact run_load_ev rfl rfl s0 hu25 rfl (by kernel_rfl)
  rotate_left
  · simp only [Act.put, List.setIfInBounds_toArray, List.set_cons_zero, List.set_cons_succ, i64_w, i32_w]
    rfl
  refine take_ (i := 1) (N := some 23) (v := .agg #[.slice A0 s.now.length c0, .slice A1 s.sure.length c1, .slice A2 s.last.length c2, .slice A3 s.slast.length c3, .slice A4 s.floors.length c4]) (a' := ?_) #[true, true, false, false, false] rfl rfl (by kernel_rfl) (fun _ _ _ h => h) (Or.inl ⟨by rfl, ?_⟩) ⟨(Bk.below BK22.out (below_step HB26.out HB29.out)), (Bk.below BK2.out (below_step (below_step (below_step (below_step (below_step (below_step HB6.out HB9.out) HB12.out) HB15.out) HB24.out) HB26.out) HB29.out))⟩ ?_ ?_
  · rintro w' ⟨s0, s1⟩
    exact run_load_ev rfl rfl s1 hu30 rfl (by kernel_rfl)
  rotate_left
  · simp only [Act.put, List.setIfInBounds_toArray, List.set_cons_zero, List.set_cons_succ, i64_w, i32_w]
    rfl
  refine one_ (i := 2) (N := some 24) #[true, true, true, false, false] rfl rfl (by kernel_rfl) (by decide) (fun K hK => ?_)
  refine goes_ Try.func19 (by kernel_rfl) rfl #[.agg #[.slice A0 s.now.length c0, .slice A1 s.sure.length c1, .slice A2 s.last.length c2, .slice A3 s.slast.length c3, .slice A4 s.floors.length c4]] (by rfl) rfl rfl (by (try simp only [List.map_toArray, List.map_cons, List.map_nil]); first | done | rfl) ?_
  refine (toStore_c (StC.below HV.out (below_step (below_step (below_step (below_step (below_step (below_step (below_step HB3.out HB6.out) HB9.out) HB12.out) HB15.out) HB24.out) HB26.out) HB29.out)) HS.out).mono ?_
  rintro e W30 ⟨u4, rfl, hr4, hb32⟩
  have HB31 := Aside0.mk hb32
  clear hb32
  have HR4 := Aside0.mk hr4
  obtain ⟨a4_0, d4_0, a4_1, d4_1, a4_2, d4_2, a4_3, d4_3, a4_4, d4_4, rfl, _⟩ := hr4.toC
  clear hr4
  refine ⟨_, rfl, ?_⟩
  refine hK.out _ _ ⟨(Bk.below BK22.out (below_step (below_step HB26.out HB29.out) HB31.out)), (Bk.below BK2.out (below_step (below_step (below_step (below_step (below_step (below_step (below_step HB6.out HB9.out) HB12.out) HB15.out) HB24.out) HB26.out) HB29.out) HB31.out))⟩ (fun hHeld => ?_)
  clear hHeld hK K
  refine norm_ (a' := ?_) ?_ ?_
  rotate_left
  · show Act.put _ (some 24) _ = _
    simp only [Act.put, List.setIfInBounds_toArray, List.set_cons_zero, List.set_cons_succ, i64_w, i32_w]
    rfl
  refine one_ (i := 3) (N := some 25) #[true, true, true, true, false] rfl rfl (by kernel_rfl) (by decide) (fun K hK => ?_)
  refine goes_ Try.func14 (by kernel_rfl) rfl #[.agg #[.slice a3_0 s.now.length d3_0, .slice a3_1 s.sure.length d3_1, .slice a3_2 s.last.length d3_2, .slice a3_3 s.slast.length d3_3, .slice a3_4 s.floors.length d3_4], .agg #[.slice a4_0 s.now.length d4_0, .slice a4_1 s.sure.length d4_1, .slice a4_2 s.last.length d4_2, .slice a4_3 s.slast.length d4_3, .slice a4_4 s.floors.length d4_4]] (by rfl) rfl rfl (by (try simp only [List.map_toArray, List.map_cons, List.map_nil]); first | done | rfl) ?_
  refine (eqStore_c (StR.toC (StR.below HR3.out (below_step (below_step (below_step HB24.out HB26.out) HB29.out) HB31.out))) (StR.toC HR4.out)).mono ?_
  rintro e W33 ⟨rfl, hb35⟩
  have HB34 := Aside0.mk hb35
  clear hb35
  refine ⟨_, rfl, ?_⟩
  refine hK.out _ _ ⟨(Bk.below BK22.out (below_step (below_step (below_step HB26.out HB29.out) HB31.out) HB34.out)), (Bk.below BK2.out (below_step (below_step (below_step (below_step (below_step (below_step (below_step (below_step HB6.out HB9.out) HB12.out) HB15.out) HB24.out) HB26.out) HB29.out) HB31.out) HB34.out))⟩ (fun hHeld => ?_)
  clear hHeld hK K
  refine norm_ (a' := ?_) ?_ ?_
  rotate_left
  · show Act.put _ (some 25) _ = _
    simp only [Act.put, List.setIfInBounds_toArray, List.set_cons_zero, List.set_cons_succ, i64_w, i32_w]
    rfl
  refine pure_ (i := 4) (N := some 26) (v := ?_) (a' := ?_) #[true, true, true, true, true] rfl rfl (by kernel_rfl) (fun _ _ _ h => h) (Or.inl ⟨by rfl, ?_⟩) ?_ ?_
  rotate_left
  · intro w'
    go_simp
    with_reducible rfl
  rotate_left
  · simp only [Act.put, List.setIfInBounds_toArray, List.set_cons_zero, List.set_cons_succ, i64_w, i32_w]
    rfl
  refine done_ (by kernel_rfl) ?_
  have he1 : decide (s = s) = true := decide_eq_true rfl
  go_wp2
  go_ret
  exact ⟨rfl, (below_step (below_step (below_step (below_step (below_step (below_step (below_step (below_step (below_step HB3.out HB6.out) HB9.out) HB12.out) HB15.out) HB24.out) HB26.out) HB29.out) HB31.out) HB34.out)⟩
end Go.Proofs.Ytolmblfffnnabaa.P

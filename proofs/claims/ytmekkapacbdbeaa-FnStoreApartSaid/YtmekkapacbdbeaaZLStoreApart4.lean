/- Part 4 of the proof of FnStoreApart: words, contracts of callees, plain lemmas. -/
import Derived.Test.YtmekkapacbdbeaaZLStoreApart3
namespace Go.Proofs.Ytmekkapacbdbeaa.P
open Go.RowKit Go.Proofs.YtmekkapacbdbeaaW.PrintWords Go.Proofs.YtmekkapacbdbeaaW.PrintLast Go.Proofs.YtmekkapacbdbeaaW.PrintMore
set_option linter.unusedVariables false
set_option linter.unusedSimpArgs false
set_option maxHeartbeats 8000000 in
set_option maxRecDepth 100000 in
theorem l5Bent_c {w0 w : World} {g m : Nat} (hB : Below w0.heap.size w0 w) (hR : Rd w0 w g (m + 2)) {v : Value} {s : St} {lo hi : Nat} (hv : StI w lo hi v s) (hf : g < lo ∨ hi ≤ g) (hhi : hi ≤ w.heap.size) (hs : Small s) (hz : Sized s) :
  Calls Try.prog 46 #[.pointer (some ⟨g, 0, none⟩), v] w fun e w' => ∃ u t, e = .returned u ∧ StI w' w.heap.size w'.heap.size u t ∧ Small t ∧ Sized t ∧ Rd w0 w' g m ∧ Below w0.heap.size w0 w' ∧ Kept w w' (fun k => g ≤ k ∧ k < g + 1) := by
 have HB0 := Ak hB
 have HG := Ak hR.lt
 have HG0 := Ak hR.ge
 have HRD := Ak hR
 have KP0 := Ak (Kept.refl w (fun k => g ≤ k ∧ k < g + 1))
 have HT0 := Ak (Nat.le_refl w.heap.size)
 clear hB hR
 have HV0 := Ak hv
 have HF := Ak hf
 have HHI := Ak hhi
 obtain ⟨A0_0, c0_0, A0_1, c0_1, A0_2, c0_2, A0_3, c0_3, A0_4, c0_4, rfl, _⟩ := hv.toC
 clear hv hf hhi
 have HS0 := Ak hs
 have HZ0 := Ak hz
 clear hs hz
 have hu26 := Try.underlying26
 go_enter Try.func46, Try.ntmps46
 have Z1 := Ak (And.intro HB0.out.size (And.intro HG.out HG0.out))
 have Z2 := Ak (And.intro Z1.out (And.intro HF.out HHI.out))
 go_wp2_with (first | ((with_reducible refine gate_dst (N := 3) rfl ?_); refine ev_box ?hg (N := 3) ?hd (cs := #[.slice A0_0 s.now.length c0_0, .slice A0_1 s.sure.length c0_1, .slice A0_2 s.last.length c0_2, .slice A0_3 s.slast.length c0_3, .slice A0_4 s.floors.length c0_4]) (t := 26) ?hr ?_; (case hd => rfl); (case hg => rfl); (case hr => first | (go_simp; done) | (go_simp; rfl)); intro g3 W3 HG6 BK4 HB5) | ((with_reducible refine gate_dst (N := 4) rfl ?_); refine ev_box ?hg (N := 4) ?hd (cs := #[.slice none 0 0, .slice none 0 0, .slice none 0 0, .slice none 0 0, .slice none 0 0]) (t := 26) ?hr ?_; (case hd => rfl); (case hg => rfl); (case hr => first | (go_simp; done) | (go_simp; rfl)); intro g4 W7 HG10 BK8 HB9) | ((with_reducible refine gate_dst (N := 6) rfl ?_); refine ev_load rfl (N := 6) rfl rfl (g := g3) rfl (cs := #[.slice A0_0 s.now.length c0_0, .slice A0_1 s.sure.length c0_1, .slice A0_2 s.last.length c0_2, .slice A0_3 s.slast.length c0_3, .slice A0_4 s.floors.length c0_4]) (Bk.below BK4.out HB9.out) hu26 rfl (by kernel_rfl) ?_))
 refine (spec_l5Copy_c (StI.toC (StI.below HV0.out (below_step HB5.out HB9.out))) HS0.out).mono ?_
 rintro e W14 ⟨u11, rfl, hr12, hb15⟩
 have HB16 := Ak hb15
 clear hb15
 have HRs13 := Ak hr12
 obtain ⟨as13_0, ds13_0, as13_1, ds13_1, as13_2, ds13_2, as13_3, ds13_3, as13_4, ds13_4, rfl, _⟩ := hr12.toC
 clear hr12
 go_wp2_with (first | ((with_reducible refine gate_dst (N := 5) rfl ?_); refine ev_box ?hg (N := 5) ?hd (cs := #[.slice none 0 0, .slice none 0 0, .slice none 0 0, .slice none 0 0, .slice none 0 0]) (t := 26) ?hr ?_; (case hd => rfl); (case hg => rfl); (case hr => first | (go_simp; done) | (go_simp; rfl)); intro g5 W17 HG20 BK18 HB19) | ((with_reducible refine gate_store (t := 26) (p := 5) rfl ?_); refine ev_put (by rfl) rfl rfl (g := g5) rfl (cs := #[.slice as13_0 s.now.length ds13_0, .slice as13_1 s.sure.length ds13_1, .slice as13_2 s.last.length ds13_2, .slice as13_3 s.slast.length ds13_3, .slice as13_4 s.floors.length ds13_4]) rfl BK18.out (by kernel_rfl) rfl rfl ?_; intro W21 BK22 HB23 HK24; have z0_ := Z2.out; have z1_ := HT0.out; have z2_ := HB5.out.size; have z3_ := HG6.out; have z4_ := BK4.out.lt; have z5_ := HB9.out.size; have z6_ := HG10.out; have z7_ := BK8.out.lt; have z8_ := HB16.out.size; have z9_ := HB19.out.size; have z10_ := HG20.out; have z11_ := BK18.out.lt; have C25 := Ak (show w.heap.size ≤ g3 ∧ g3 ≤ g3 + 1 from (by omega)); have C26 := Ak (show g3 + 1 ≤ g4 ∧ g4 ≤ g4 + 1 from (by omega)); have C27 := Ak (show g4 + 1 ≤ W7.heap.size ∧ W7.heap.size ≤ W14.heap.size from (by omega)); have C28 := Ak (show W14.heap.size ≤ g5 ∧ g5 ≤ g5 + 1 from (by omega)); have T29 := Ak (show g5 + 1 ≤ W17.heap.size from (by omega)); have HB30 := Ak (below_at (below_step HB0.out (below_step (below_step (below_step HB5.out HB9.out) HB16.out) HB19.out)) HB23.out (by show w0.heap.size ≤ g5; omega)); have HK31 := Ak (HK24.out); have KP33 := Ak (kept_new (Kept.below KP0.out (below_step (below_step (below_step HB5.out HB9.out) HB16.out) HB19.out)) HK31.out (by show w.heap.size ≤ g5; omega)); have T32 := Ak (Nat.le_trans T29.out HK31.out.1); have F34 := Ak (StI.kept (StI.below HV0.out (below_step (below_step (below_step HB5.out HB9.out) HB16.out) HB19.out)) HK31.out (fun k_ h_ => (by obtain ⟨h1_, h2_⟩ := h_; omega))); have F35 := Ak (Bk.kept (Bk.below BK4.out (below_step (below_step HB9.out HB16.out) HB19.out)) HK31.out (fun h_ => (by obtain ⟨h1_, h2_⟩ := h_; omega))); have F36 := Ak (Bk.kept (Bk.below BK8.out (below_step HB16.out HB19.out)) HK31.out (fun h_ => (by obtain ⟨h1_, h2_⟩ := h_; omega))); have F37 := Ak (StR.kept (StR.below HRs13.out HB19.out) HK31.out (fun k_ h_ => (by obtain ⟨h1_, h2_⟩ := h_; omega))); have F38 := Ak (BK22.out); have F39 := Ak (Rd.kept (Rd.below HRD.out (below_step (below_step (below_step HB5.out HB9.out) HB16.out) HB19.out)) HK31.out (fun h_ => (by obtain ⟨h1_, h2_⟩ := h_; omega))); clear z0_ z1_ z2_ z3_ z4_ z5_ z6_ z7_ z8_ z9_ z10_ z11_; have Z40 := Ak (And.intro Z2.out (And.intro C25.out (And.intro C26.out (And.intro C27.out C28.out))))))
 refine (pick_c (m := m + 1) F39.out HB30.out (by omega)).mono ?_
 rintro e W47 ⟨r41, rfl, h42, h43, hR44, hb48, hk45⟩
 have z0_ := Z40.out
 have z1_ := T32.out
 have T50 := Ak (show g5 + 1 ≤ W21.heap.size from (by omega))
 have N51 := Ak (show ∀ k_, (g ≤ k_ ∧ k_ < g + 1) → k_ < lo ∨ hi ≤ k_ from (by intro k_ h_; omega))
 have N52 := Ak (show ¬ (g ≤ g3 ∧ g3 < g + 1) from (by omega))
 have N53 := Ak (show ¬ (g ≤ g4 ∧ g4 < g + 1) from (by omega))
 have N54 := Ak (show ∀ k_, (g ≤ k_ ∧ k_ < g + 1) → k_ < W7.heap.size ∨ W14.heap.size ≤ k_ from (by intro k_ h_; omega))
 have N55 := Ak (show ¬ (g ≤ g5 ∧ g5 < g + 1) from (by omega))
 have HB56 := Ak (hb48)
 have HK57 := Ak (hk45)
 have KP59 := Ak (Kept.then_ KP33.out HK57.out (fun _ h_ => Or.inl h_))
 have T58 := Ak (Nat.le_trans T50.out HK57.out.1)
 have F60 := Ak (StI.kept F34.out HK57.out N51.out)
 have F61 := Ak (Bk.kept F35.out HK57.out N52.out)
 have F62 := Ak (Bk.kept F36.out HK57.out N53.out)
 have F63 := Ak (StR.kept F37.out HK57.out N54.out)
 have F64 := Ak (Bk.kept F38.out HK57.out N55.out)
 have F65 := Ak (hR44)
 clear z0_ z1_ hb48 hk45 hR44
 have HP46 := Ak (And.intro h42 h43)
 clear h42 h43
 go_upto_block 0 with (fail)
 go_cut [] (fun W66 => ∃ (b0_ : Option Addr) (n0_ : Nat) (e0_ : Nat) (b1_ : Option Addr) (n1_ : Nat) (e1_ : Nat) (b2_ : Option Addr) (n2_ : Nat) (e2_ : Nat) (b3_ : Option Addr) (n3_ : Nat) (e3_ : Nat) (b4_ : Option Addr) (n4_ : Nat) (e4_ : Nat) (t_ : St), Aside0 (Bk W66 g3 #[.slice A0_0 s.now.length c0_0, .slice A0_1 s.sure.length c0_1, .slice A0_2 s.last.length c0_2, .slice A0_3 s.slast.length c0_3, .slice A0_4 s.floors.length c0_4] 26) ∧ Aside0 (Bk W66 g4 #[.slice none 0 0, .slice none 0 0, .slice none 0 0, .slice none 0 0, .slice none 0 0] 26) ∧ Aside0 (Bk W66 g5 #[.slice b0_ n0_ e0_, .slice b1_ n1_ e1_, .slice b2_ n2_ e2_, .slice b3_ n3_ e3_, .slice b4_ n4_ e4_] 26) ∧ Aside0 (StI W66 lo hi (.agg #[.slice A0_0 s.now.length c0_0, .slice A0_1 s.sure.length c0_1, .slice A0_2 s.last.length c0_2, .slice A0_3 s.slast.length c0_3, .slice A0_4 s.floors.length c0_4]) (s)) ∧ Aside0 (StI W66 W7.heap.size W14.heap.size (.agg #[.slice b0_ n0_ e0_, .slice b1_ n1_ e1_, .slice b2_ n2_ e2_, .slice b3_ n3_ e3_, .slice b4_ n4_ e4_]) (t_)) ∧ Aside0 (Rd w0 W66 g (m + 0)) ∧ Aside0 (Below w0.heap.size w0 W66) ∧ Aside0 (Kept w W66 (fun k => g ≤ k ∧ k < g + 1)) ∧ Aside0 (g5 + 1 ≤ W66.heap.size) ∧ Aside0 (Small t_) ∧ Aside0 (Sized t_))
 case first =>
  go_upto_if 10 with (fail)
  by_cases c67 : r41 = 0
  ·have d68 : (r41 == 0) = true := beq_iff_eq.mpr c67
   (first | rw [d68] | (simp only [i64_w, i32_w]; rw [d68]) | skip)
   have K69 := Ak c67
   clear c67
   go_upto_if 15 with (first | ((with_reducible refine gate_dst (N := 13) rfl ?_); refine ev_val (by rfl) (v := .slice as13_0 s.now.length ds13_0) ?hr ?_; (case hr => have hc_ : W47.cell? ⟨g5, 0, none⟩ = some (.slice as13_0 s.now.length ds13_0) := (Bk.cell F64.out 0).trans rfl; first | (go_simp; done) | (go_simp; rfl))))
   by_cases c70 : (s.now.length : Int) > 0
   ·have d71 : decide (0 < s.now.length) = true := decide_eq_true (by omega)
    (first | rw [d71] | (simp only [i64_w, i32_w]; rw [d71]) | skip)
    have K72 := Ak c70
    clear c70
    go_upto_region 5 with (fail)
    have HC1 := Ak (show 1 ≤ s.now.length from (by have i0_ := HP46.out; have i1_ := K69.out; have i2_ := K72.out; omega))
    obtain ⟨i0_, hi0_, _, hsz_, _⟩ := info_parts info9
    have hcut_ := cut_from (P := Try.prog) 23 9 .i64 Try.underlying23 hi0_ 1 hsz_ as13_0 s.now.length ds13_0 1 (by omega) (by have := HC1.out; omega)
    clear hi0_ hsz_
    obtain ⟨B_, hB_⟩ : ∃ B_, B_ = (if ds13_0 = (1 : Int).toNat then as13_0 else (as13_0 : Option Addr).map (·.add ((1 : Int).toNat * 1))) := ⟨_, rfl⟩
    obtain ⟨D_, hD_⟩ : ∃ D_, D_ = ds13_0 - (1 : Int).toNat := ⟨_, rfl⟩
    rw [← hB_, ← hD_] at hcut_
    have HBe := Ak hB_
    have HDe := Ak hD_
    clear hB_ hD_
    try go_wp2_with (first | ((with_reducible refine gate_dst (N := 17) rfl ?_); refine ev_val (by rfl) (v := .slice as13_0 s.now.length ds13_0) ?hr ?_; (case hr => have hc_ : W47.cell? ⟨g5, 0, none⟩ = some (.slice as13_0 s.now.length ds13_0) := (Bk.cell F64.out 0).trans rfl; first | (go_simp; done) | (go_simp; rfl))) | ((with_reducible refine gate_store (t := 23) (p := 19) rfl ?_); refine ev_setcell (by rfl) rfl (g := g5) (i := 0) (v := .slice B_ (s.now.length - 1) D_) ?hr ?_; (case hr => have hc_ : W47.cell? ⟨g5, 0, none⟩ = some (.slice as13_0 s.now.length ds13_0) := (Bk.cell F64.out 0).trans rfl; have hf_ := Bk.hot F64.out 0; first | (go_simp; done) | (go_simp; rfl)); intro W78 e79; have z0_ := Z40.out; have z1_ := T58.out; have T80 := Ak (show g5 + 1 ≤ W47.heap.size from (by omega)); have HB81 := Ak (below_at HB56.out (below_setcell e79) (by show w0.heap.size ≤ g5; omega)); have HK82 := Ak (kept_set e79); have KP84 := Ak (kept_new KP59.out HK82.out (by show w.heap.size ≤ g5; omega)); have T83 := Ak (Nat.le_trans T80.out HK82.out.1); have F85 := Ak (StI.kept F60.out HK82.out (fun k_ h_ => (by obtain ⟨h1_, h2_⟩ := h_; omega))); have F86 := Ak (Bk.kept F61.out HK82.out (fun h_ => (by obtain ⟨h1_, h2_⟩ := h_; omega))); have F87 := Ak (Bk.kept F62.out HK82.out (fun h_ => (by obtain ⟨h1_, h2_⟩ := h_; omega))); have F88 := Ak ((show StI W78 W7.heap.size W14.heap.size (.agg #[.slice B_ (s.now.length - 1) D_, .slice as13_1 s.sure.length ds13_1, .slice as13_2 s.last.length ds13_2, .slice as13_3 s.slast.length ds13_3, .slice as13_4 s.floors.length ds13_4]) { s with now := s.now.drop 1 } from by rw [HBe.out, HDe.out]; exact StI.drop (StR.toI (StR.kept F63.out HK82.out (fun k_ h_ => (by obtain ⟨h1_, h2_⟩ := h_; omega)))) HC1.out)); have F89 := Ak (Bk.put F64.out e79 rfl); have F90 := Ak (Rd.kept F65.out HK82.out (fun h_ => (by obtain ⟨h1_, h2_⟩ := h_; omega))); clear z0_ z1_ e79))
    go_meet
    case rel => exact ⟨_, _, _, _, _, _, _, _, _, _, _, _, _, _, _, { s with now := s.now.drop 1 }, ⟨F86.out⟩, ⟨F87.out⟩, ⟨F89.out⟩, ⟨F85.out⟩, ⟨F88.out⟩, ⟨Rd.less F90.out (by omega)⟩, ⟨HB81.out⟩, ⟨KP84.out⟩, ⟨(by show g5 + 1 ≤ W78.heap.size; have z0_ := Z40.out; have z1_ := T83.out; omega)⟩, ⟨(small_now HS0.out)⟩, ⟨(sized_now HZ0.out)⟩⟩
   ·have d71 : decide (0 < s.now.length) = false := decide_eq_false (by omega)
    (first | rw [d71] | (simp only [i64_w, i32_w]; rw [d71]) | skip)
    have K72 := Ak c70
    clear c70
    try go_wp2
    go_meet
    case rel => exact ⟨_, _, _, _, _, _, _, _, _, _, _, _, _, _, _, s, ⟨F61.out⟩, ⟨F62.out⟩, ⟨F64.out⟩, ⟨F60.out⟩, ⟨StR.toI F63.out⟩, ⟨Rd.less F65.out (by omega)⟩, ⟨HB56.out⟩, ⟨KP59.out⟩, ⟨(by show g5 + 1 ≤ W47.heap.size; have z0_ := Z40.out; have z1_ := T58.out; omega)⟩, ⟨HS0.out⟩, ⟨HZ0.out⟩⟩
  ·have d68 : (r41 == 0) = false := beq_eq_false_iff_ne.mpr c67
   (first | rw [d68] | (simp only [i64_w, i32_w]; rw [d68]) | skip)
   have K69 := Ak c67
   clear c67
   go_upto_if 20 with (fail)
   by_cases c91 : r41 = 1
   ·have d92 : (r41 == 1) = true := beq_iff_eq.mpr c91
    (first | rw [d92] | (simp only [i64_w, i32_w]; rw [d92]) | skip)
    have K93 := Ak c91
    clear c91
    go_upto_if 25 with (first | ((with_reducible refine gate_dst (N := 23) rfl ?_); refine ev_val (by rfl) (v := .slice as13_1 s.sure.length ds13_1) ?hr ?_; (case hr => have hc_ : W47.cell? ⟨g5, 1, none⟩ = some (.slice as13_1 s.sure.length ds13_1) := (Bk.cell F64.out 1).trans rfl; first | (go_simp; done) | (go_simp; rfl))))
    by_cases c94 : (s.sure.length : Int) > 0
    ·have d95 : decide (0 < s.sure.length) = true := decide_eq_true (by omega)
     (first | rw [d95] | (simp only [i64_w, i32_w]; rw [d95]) | skip)
     have K96 := Ak c94
     clear c94
     go_upto_region 8 with (fail)
     have HI97 := Ak (show (0 : Int) ≤ (0 : Int) ∧ (0 : Int) < ((s.sure).length : Int) from (by have i0_ := HP46.out; have i1_ := K69.out; have i2_ := K93.out; have i3_ := K96.out; exact ⟨by omega, by omega⟩))
     obtain ⟨g98, rfl⟩ := StR.sure_form F63.out HI97.out.1 HI97.out.2
     have qHI97 : (0 < (s.sure).length) = True := eq_true (by have := HI97.out.2; omega)
     have GT99 := Ak (And.intro (StR.sure_cell F63.out HI97.out.1 HI97.out.2).1 (StR.sure_cell F63.out HI97.out.1 HI97.out.2).2.1)
     try go_wp2_with (first | ((with_reducible refine gate_dst (N := 27) rfl ?_); refine ev_val (by rfl) (v := .slice (some ⟨g98, 0, none⟩) s.sure.length ds13_1) ?hr ?_; (case hr => have hc_ : W47.cell? ⟨g5, 1, none⟩ = some (.slice (some ⟨g98, 0, none⟩) s.sure.length ds13_1) := (Bk.cell F64.out 1).trans rfl; first | (go_simp; done) | (go_simp; rfl))) | ((with_reducible refine gate_store (t := 9) (p := 28) rfl ?_); refine ev_setcell (by rfl) rfl (g := g98) (i := (0 : Int).toNat) (v := .string ⟨#[65]⟩) ?hr ?_; (case hr => have hc_ := (show W47.cell? ⟨g98, 0, none⟩ = some (.string (rdOf ByteArray.empty s.sure (0 : Int))) from (StR.sure_cell F63.out HI97.out.1 HI97.out.2).2.2.1); have hf_ := (show W47.frozen? ⟨g98, 0, none⟩ = false from (StR.sure_cell F63.out HI97.out.1 HI97.out.2).2.2.2.1); first | (go_simp; done) | (go_simp; rfl)); intro W100 e101; have z0_ := Z40.out; have z1_ := T58.out; have z2_ := GT99.out; have T102 := Ak (show g5 + 1 ≤ W47.heap.size from (by omega)); have HB103 := Ak (below_at HB56.out (below_setcell e101) (by show w0.heap.size ≤ g98; omega)); have HK104 := Ak (kept_set e101); have KP106 := Ak (kept_new KP59.out HK104.out (by show w.heap.size ≤ g98; omega)); have T105 := Ak (Nat.le_trans T102.out HK104.out.1); have F107 := Ak (StI.kept F60.out HK104.out (fun k_ h_ => (by obtain ⟨h1_, h2_⟩ := h_; omega))); have F108 := Ak (Bk.kept F61.out HK104.out (fun h_ => (by obtain ⟨h1_, h2_⟩ := h_; omega))); have F109 := Ak (Bk.kept F62.out HK104.out (fun h_ => (by obtain ⟨h1_, h2_⟩ := h_; omega))); have F110 := Ak ((StR.sure_cell F63.out HI97.out.1 HI97.out.2).2.2.2.2 (⟨#[65]⟩) _ e101); have F111 := Ak (Bk.kept F64.out HK104.out (fun h_ => (by obtain ⟨h1_, h2_⟩ := h_; omega))); have F112 := Ak (Rd.kept F65.out HK104.out (fun h_ => (by obtain ⟨h1_, h2_⟩ := h_; omega))); clear z0_ z1_ z2_ e101; have Z113 := Ak (And.intro Z40.out GT99.out)))
     go_meet
     case rel => exact ⟨_, _, _, _, _, _, _, _, _, _, _, _, _, _, _, { s with sure := s.sure.set (0 : Int).toNat (⟨#[65]⟩) }, ⟨F108.out⟩, ⟨F109.out⟩, ⟨F111.out⟩, ⟨F107.out⟩, ⟨StR.toI F110.out⟩, ⟨Rd.less F112.out (by omega)⟩, ⟨HB103.out⟩, ⟨KP106.out⟩, ⟨(by show g5 + 1 ≤ W100.heap.size; have z0_ := Z113.out; have z1_ := T105.out; omega)⟩, ⟨(small_sure HS0.out)⟩, ⟨(sized_sure (by decide) HZ0.out)⟩⟩
    ·have d95 : decide (0 < s.sure.length) = false := decide_eq_false (by omega)
     (first | rw [d95] | (simp only [i64_w, i32_w]; rw [d95]) | skip)
     have K96 := Ak c94
     clear c94
     try go_wp2
     go_meet
     case rel => exact ⟨_, _, _, _, _, _, _, _, _, _, _, _, _, _, _, s, ⟨F61.out⟩, ⟨F62.out⟩, ⟨F64.out⟩, ⟨F60.out⟩, ⟨StR.toI F63.out⟩, ⟨Rd.less F65.out (by omega)⟩, ⟨HB56.out⟩, ⟨KP59.out⟩, ⟨(by show g5 + 1 ≤ W47.heap.size; have z0_ := Z40.out; have z1_ := T58.out; omega)⟩, ⟨HS0.out⟩, ⟨HZ0.out⟩⟩
   ·have d92 : (r41 == 1) = false := beq_eq_false_iff_ne.mpr c91
    (first | rw [d92] | (simp only [i64_w, i32_w]; rw [d92]) | skip)
    have K93 := Ak c91
    clear c91
    go_upto_if 29 with (fail)
    by_cases c114 : r41 = 2
    ·have d115 : (r41 == 2) = true := beq_iff_eq.mpr c114
     (first | rw [d115] | (simp only [i64_w, i32_w]; rw [d115]) | skip)
     have K116 := Ak c114
     clear c114
     go_upto_if 34 with (first | ((with_reducible refine gate_dst (N := 32) rfl ?_); refine ev_val (by rfl) (v := .slice as13_2 s.last.length ds13_2) ?hr ?_; (case hr => have hc_ : W47.cell? ⟨g5, 2, none⟩ = some (.slice as13_2 s.last.length ds13_2) := (Bk.cell F64.out 2).trans rfl; first | (go_simp; done) | (go_simp; rfl))))
     by_cases c117 : (s.last.length : Int) > 0
     ·have d118 : decide (0 < s.last.length) = true := decide_eq_true (by omega)
      (first | rw [d118] | (simp only [i64_w, i32_w]; rw [d118]) | skip)
      have K119 := Ak c117
      clear c117
      go_upto_region 11 with (fail)
      have HI120 := Ak (show (0 : Int) ≤ (0 : Int) ∧ (0 : Int) < ((s.last).length : Int) from (by have i0_ := HP46.out; have i1_ := K69.out; have i2_ := K93.out; have i3_ := K116.out; have i4_ := K119.out; exact ⟨by omega, by omega⟩))
      obtain ⟨g121, rfl⟩ := StR.last_form F63.out HI120.out.1 HI120.out.2
      have qHI120 : (0 < (s.last).length) = True := eq_true (by have := HI120.out.2; omega)
      have GT122 := Ak (And.intro (StR.last_cell F63.out HI120.out.1 HI120.out.2).1 (StR.last_cell F63.out HI120.out.1 HI120.out.2).2.1)
      go_wp2_with (fail)
      refine start_ (n := 7) (S := fun w' => Bk w' g5 #[.slice as13_0 s.now.length ds13_0, .slice as13_1 s.sure.length ds13_1, .slice (some ⟨g121, 0, none⟩) s.last.length ds13_2, .slice as13_3 s.slast.length ds13_3, .slice as13_4 s.floors.length ds13_4] 26) (ds := [6]) #[false, false, false, false, false, false, false] (by kernel_rfl) rfl rfl (show Bk W47 g5 #[.slice as13_0 s.now.length ds13_0, .slice as13_1 s.sure.length ds13_1, .slice (some ⟨g121, 0, none⟩) s.last.length ds13_2, .slice as13_3 s.slast.length ds13_3, .slice as13_4 s.floors.length ds13_4] 26 from F64.out) (fun hHeld => ?_)
      clear hHeld
      refine world_at (w := W47) (below_drew0 _) (fun W123 HB124 => ?_)
      refine pure_ (i := 0) (N := some 35) (v := ?_) (a' := ?_) #[T0, F0, F0, F0, F0, F0, F0] rfl rfl (by kernel_rfl) (fun _ _ _ h => h) (Or.inl ⟨by rfl, ?_⟩) ?_ ?_
      rotate_left
      ·intro w'
       go_simp
       with_reducible rfl
      rotate_left
      ·simp only [Act.put, zzA, zzB, zzC, i64_w, i32_w]
       rfl
      refine take_ (i := 1) (N := some 36) (v := .slice (some ⟨g121, 0, none⟩) s.last.length ds13_2) (a' := ?_) #[T0, T0, F0, F0, F0, F0, F0] rfl rfl (by kernel_rfl) (fun _ _ _ h => h) (Or.inl ⟨by rfl, ?_⟩) (Bk.below F64.out HB124.out) ?_ ?_
      ·rintro w' s0_
       have hc_ : w'.cell? ⟨g5, 2, none⟩ = some (.slice (some ⟨g121, 0, none⟩) s.last.length ds13_2) := (Bk.cell s0_ 2).trans rfl
       first | (go_simp; done) | (go_simp; with_reducible rfl) | (go_simp; rfl)
      rotate_left
      ·simp only [Act.put, zzA, zzB, zzC, i64_w, i32_w]
       rfl
      refine pure_ (i := 2) (N := some 37) (v := ?_) (a' := ?_) #[T0, T0, T0, F0, F0, F0, F0] rfl rfl (by kernel_rfl) (fun _ _ _ h => h) (Or.inl ⟨by rfl, ?_⟩) ?_ ?_
      rotate_left
      ·intro w'
       go_simp
       with_reducible rfl
      rotate_left
      ·simp only [Act.put, zzA, zzB, zzC, i64_w, i32_w]
       rfl
      refine one_ (i := 3) (N := some 38) #[T0, T0, T0, T0, F0, F0, F0] rfl rfl (by kernel_rfl) (by decide) (fun K hK => ?_)
      refine lit_step (Kd.int .i64) 3 (by rfl) (N := 38) rfl (xs := ([(-1), 1000, 1001] : List Int)) (inner := [.int .i64 (-1), .int .i64 1000, .int .i64 1001]) (by first | (go_simp; done) | (go_simp; rfl)) (reps_int ([(-1), 1000, 1001] : List Int)) (by simp) ?_
      intro A125 c126 W128 HL127 HB129
      refine hK.out _ _ (Bk.below F64.out (below_step HB124.out HB129.out)) (fun hHeld => ?_)
      clear hHeld hK K
      refine norm_ (a' := ?_) ?_ ?_
      rotate_left
      ·show Act.put _ (some 38) _ = _
       simp only [Act.put, zzA, zzB, zzC, i64_w, i32_w]
       rfl
      refine one_ (i := 4) (N := some 39) #[T0, T0, T0, T0, T0, F0, F0] rfl rfl (by kernel_rfl) (by decide) (fun K hK => ?_)
      refine goes_ Try.func64 (by kernel_rfl) rfl #[.pointer (some ⟨g, 0, none⟩), .slice A125 ([(-1), 1000, 1001] : List Int).length c126] (by rfl) rfl rfl (by (try simp only [List.map_toArray, List.map_cons, List.map_nil]); first | done | rfl) ?_
      refine (num_c (m := m + 0) (Rd.below F65.out (below_step HB124.out HB129.out)) (below_step HB56.out (below_step HB124.out HB129.out)) HL127.out.1 HL127.out.2.1 (fun ad_ e_ h_ => (by have q_ := HL127.out.2.2 ad_ e_ h_; show ad_.block ≠ g; have z0_ := Z40.out; have z1_ := T58.out; have z2_ := GT122.out; have z3_ := HB124.out.size; have z4_ := HB129.out.size; omega)) (by decide)).mono ?_
      rintro e W135 ⟨r130, rfl, hm131, hR132, hb136, hk133⟩
      have z0_ := Z40.out
      have z1_ := T58.out
      have z2_ := GT122.out
      have z3_ := HB124.out.size
      have z4_ := HB129.out.size
      have T138 := Ak (show g5 + 1 ≤ W128.heap.size from (by omega))
      have HB139 := Ak (hb136)
      have HK140 := Ak (hk133)
      have KP142 := Ak (Kept.then_ (Kept.below KP59.out (below_step HB124.out HB129.out)) HK140.out (fun _ h_ => Or.inl h_))
      have T141 := Ak (Nat.le_trans T138.out HK140.out.1)
      have F143 := Ak (StI.kept (StI.below F60.out (below_step HB124.out HB129.out)) HK140.out N51.out)
      have F144 := Ak (Bk.kept (Bk.below F61.out (below_step HB124.out HB129.out)) HK140.out N52.out)
      have F145 := Ak (Bk.kept (Bk.below F62.out (below_step HB124.out HB129.out)) HK140.out N53.out)
      have F146 := Ak (StR.kept (StR.below F63.out (below_step HB124.out HB129.out)) HK140.out N54.out)
      have F147 := Ak (Bk.kept (Bk.below F64.out (below_step HB124.out HB129.out)) HK140.out N55.out)
      have F148 := Ak (hR132)
      clear z0_ z1_ z2_ z3_ z4_ hb136 hk133 hR132
      have Z149 := Ak (And.intro Z40.out GT122.out)
      have HM134 := Ak hm131
      clear hm131
      refine ⟨_, rfl, ?_⟩
      refine hK.out _ _ F147.out (fun hHeld => ?_)
      clear hHeld hK K
      refine norm_ (a' := ?_) ?_ ?_
      rotate_left
      ·show Act.put _ (some 39) _ = _
       simp only [Act.put, zzA, zzB, zzC, i64_w, i32_w]
       rfl
      refine pure_ (i := 5) (N := some 40) (v := ?_) (a' := ?_) #[T0, T0, T0, T0, T0, T0, F0] rfl rfl (by kernel_rfl) (fun _ _ _ h => h) (Or.inl ⟨by rfl, ?_⟩) ?_ ?_
      rotate_left
      ·intro w'
       go_simp
       with_reducible rfl
      rotate_left
      ·simp only [Act.put, zzA, zzB, zzC, i64_w, i32_w]
       rfl
      refine last_ (i := 6) (N := none) #[T0, T0, T0, T0, T0, T0, T0] rfl rfl (by kernel_rfl) (by decide) (fun K hK => ?_)
      refine skip_ (w1 := W135.setCell ⟨g121, (0 : Int).toNat, none⟩ (.int .i64 r130)) (by rfl) rfl ?_ ?_
      ·have hc_ := (show W135.cell? ⟨g121, 0, none⟩ = some (.int .i64 (rd s.last (0 : Int))) from (StR.last_cell F146.out HI120.out.1 HI120.out.2).2.2.1)
       have hf_ := (show W135.frozen? ⟨g121, 0, none⟩ = false from (StR.last_cell F146.out HI120.out.1 HI120.out.2).2.2.2.1)
       first | (go_simp; done) | (go_simp; rfl)
      refine hK.out _ _ ?_
      clear hK K
      refine done_ (by kernel_rfl) ?_
      refine set_event (fun W150 e151 => ?_)
      have z0_ := Z149.out; have z1_ := T141.out; have T152 := Ak (show g5 + 1 ≤ W135.heap.size from (by omega)); have HB153 := Ak (below_at HB139.out (below_setcell e151) (by show w0.heap.size ≤ g121; omega)); have HK154 := Ak (kept_set e151); have KP156 := Ak (kept_new KP142.out HK154.out (by show w.heap.size ≤ g121; omega)); have T155 := Ak (Nat.le_trans T152.out HK154.out.1); have F157 := Ak (StI.kept F143.out HK154.out (fun k_ h_ => (by obtain ⟨h1_, h2_⟩ := h_; omega))); have F158 := Ak (Bk.kept F144.out HK154.out (fun h_ => (by obtain ⟨h1_, h2_⟩ := h_; omega))); have F159 := Ak (Bk.kept F145.out HK154.out (fun h_ => (by obtain ⟨h1_, h2_⟩ := h_; omega))); have F160 := Ak ((StR.last_cell F146.out HI120.out.1 HI120.out.2).2.2.2.2 (r130) _ e151); have F161 := Ak (Bk.kept F147.out HK154.out (fun h_ => (by obtain ⟨h1_, h2_⟩ := h_; omega))); have F162 := Ak (Rd.kept F148.out HK154.out (fun h_ => (by obtain ⟨h1_, h2_⟩ := h_; omega))); clear z0_ z1_ e151
      try go_wp2
      go_meet
      case rel => exact ⟨_, _, _, _, _, _, _, _, _, _, _, _, _, _, _, { s with last := s.last.set (0 : Int).toNat (r130) }, ⟨F158.out⟩, ⟨F159.out⟩, ⟨F161.out⟩, ⟨F157.out⟩, ⟨StR.toI F160.out⟩, ⟨Rd.less F162.out (by omega)⟩, ⟨HB153.out⟩, ⟨KP156.out⟩, ⟨(by show g5 + 1 ≤ W150.heap.size; have z0_ := Z149.out; have z1_ := T155.out; omega)⟩, ⟨(small_last HS0.out)⟩, ⟨HZ0.out⟩⟩
     ·have d118 : decide (0 < s.last.length) = false := decide_eq_false (by omega)
      (first | rw [d118] | (simp only [i64_w, i32_w]; rw [d118]) | skip)
      have K119 := Ak c117
      clear c117
      try go_wp2
      go_meet
      case rel => exact ⟨_, _, _, _, _, _, _, _, _, _, _, _, _, _, _, s, ⟨F61.out⟩, ⟨F62.out⟩, ⟨F64.out⟩, ⟨F60.out⟩, ⟨StR.toI F63.out⟩, ⟨Rd.less F65.out (by omega)⟩, ⟨HB56.out⟩, ⟨KP59.out⟩, ⟨(by show g5 + 1 ≤ W47.heap.size; have z0_ := Z40.out; have z1_ := T58.out; omega)⟩, ⟨HS0.out⟩, ⟨HZ0.out⟩⟩
    ·have d115 : (r41 == 2) = false := beq_eq_false_iff_ne.mpr c114
     (first | rw [d115] | (simp only [i64_w, i32_w]; rw [d115]) | skip)
     have K116 := Ak c114
     clear c114
     go_upto_if 41 with (fail)
     by_cases c163 : r41 = 3
     ·have d164 : (r41 == 3) = true := beq_iff_eq.mpr c163
      (first | rw [d164] | (simp only [i64_w, i32_w]; rw [d164]) | skip)
      have K165 := Ak c163
      clear c163
      go_upto_region 13 with (fail)
      by_cases c166 : (s.slast.length : Int) > 1
      ·have d167 : decide (1 < (s.slast.length : Int)) = true := decide_eq_true (by omega)
       (first | rw [d167] | (simp only [i64_w, i32_w]; rw [d167]) | skip)
       have K168 := Ak c166
       clear c166
       go_upto_if 52 with (first | ((with_reducible refine gate_dst (N := 44) rfl ?_); refine ev_val (by rfl) (v := .slice as13_3 s.slast.length ds13_3) ?hr ?_; (case hr => have hc_ : W47.cell? ⟨g5, 3, none⟩ = some (.slice as13_3 s.slast.length ds13_3) := (Bk.cell F64.out 3).trans rfl; first | (go_simp; done) | (go_simp; rfl))) | ((with_reducible refine gate_dst (N := 49) rfl ?_); refine ev_val (by rfl) (v := .slice as13_2 s.last.length ds13_2) ?hr ?_; (case hr => have hc_ : W47.cell? ⟨g5, 2, none⟩ = some (.slice as13_2 s.last.length ds13_2) := (Bk.cell F64.out 2).trans rfl; first | (go_simp; done) | (go_simp; rfl))))
       by_cases c169 : (s.last.length : Int) > 1
       ·have d170 : decide (1 < (s.last.length : Int)) = true := decide_eq_true (by omega)
        (first | rw [d170] | (simp only [i64_w, i32_w]; rw [d170]) | skip)
        have K171 := Ak c169
        clear c169
        go_upto_region 14 with (fail)
        have HI172 := Ak (show (0 : Int) ≤ (1 : Int) ∧ (1 : Int) < ((s.slast).length : Int) from (by have i0_ := HP46.out; have i1_ := K69.out; have i2_ := K93.out; have i3_ := K116.out; have i4_ := K165.out; have i5_ := K168.out; have i6_ := K171.out; exact ⟨by omega, by omega⟩))
        obtain ⟨g173, rfl⟩ := StR.slast_form F63.out HI172.out.1 HI172.out.2
        have qHI172 : (1 < ((s.slast).length : Int)) = True := eq_true (by have := HI172.out.2; omega)
        have GT174 := Ak (And.intro (StR.slast_cell F63.out HI172.out.1 HI172.out.2).1 (StR.slast_cell F63.out HI172.out.1 HI172.out.2).2.1)
        have HI175 := Ak (show (0 : Int) ≤ (1 : Int) ∧ (1 : Int) < ((s.last).length : Int) from (by have i0_ := HP46.out; have i1_ := K69.out; have i2_ := K93.out; have i3_ := K116.out; have i4_ := K165.out; have i5_ := K168.out; have i6_ := K171.out; exact ⟨by omega, by omega⟩))
        obtain ⟨g176, rfl⟩ := StR.last_form F63.out HI175.out.1 HI175.out.2
        have qHI175 : (1 < ((s.last).length : Int)) = True := eq_true (by have := HI175.out.2; omega)
        have GT177 := Ak (And.intro (StR.last_cell F63.out HI175.out.1 HI175.out.2).1 (StR.last_cell F63.out HI175.out.1 HI175.out.2).2.1)
        go_wp2_with (fail)
        refine start_ (n := 12) (S := fun w' => Bk w' g5 #[.slice as13_0 s.now.length ds13_0, .slice as13_1 s.sure.length ds13_1, .slice (some ⟨g176, 0, none⟩) s.last.length ds13_2, .slice (some ⟨g173, 0, none⟩) s.slast.length ds13_3, .slice as13_4 s.floors.length ds13_4] 26 ∧ w'.cell? ⟨g176, 1, none⟩ = some (.int .i64 (rd s.last (1 : Int)))) (ds := [11]) #[false, false, false, false, false, false, false, false, false, false, false, false] (by kernel_rfl) rfl rfl ⟨(show Bk W47 g5 #[.slice as13_0 s.now.length ds13_0, .slice as13_1 s.sure.length ds13_1, .slice (some ⟨g176, 0, none⟩) s.last.length ds13_2, .slice (some ⟨g173, 0, none⟩) s.slast.length ds13_3, .slice as13_4 s.floors.length ds13_4] 26 from F64.out), (show W47.cell? ⟨g176, 1, none⟩ = some (.int .i64 (rd s.last (1 : Int))) from (show W47.cell? ⟨g176, 1, none⟩ = some (.int .i64 (rd s.last (1 : Int))) from (StR.last_cell F63.out HI175.out.1 HI175.out.2).2.2.1))⟩ (fun hHeld => ?_)
        clear hHeld
        refine world_at (w := W47) (below_drew0 _) (fun W178 HB179 => ?_)
        refine pure_ (i := 0) (N := some 53) (v := ?_) (a' := ?_) #[T0, F0, F0, F0, F0, F0, F0, F0, F0, F0, F0, F0] rfl rfl (by kernel_rfl) (fun _ _ _ h => h) (Or.inl ⟨by rfl, ?_⟩) ?_ ?_
        rotate_left
        ·intro w'
         go_simp
         with_reducible rfl
        rotate_left
        ·simp only [Act.put, zzA, zzB, zzC, i64_w, i32_w]
         rfl
        refine take_ (i := 1) (N := some 54) (v := .slice (some ⟨g173, 0, none⟩) s.slast.length ds13_3) (a' := ?_) #[T0, T0, F0, F0, F0, F0, F0, F0, F0, F0, F0, F0] rfl rfl (by kernel_rfl) (fun _ _ _ h => h) (Or.inl ⟨by rfl, ?_⟩) ⟨(Bk.below F64.out HB179.out), (show W178.cell? ⟨g176, 1, none⟩ = some (.int .i64 (rd s.last (1 : Int))) from (show W178.cell? ⟨g176, 1, none⟩ = some (.int .i64 (rd s.last (1 : Int))) from (StR.last_cell (StR.below F63.out HB179.out) HI175.out.1 HI175.out.2).2.2.1))⟩ ?_ ?_
        ·rintro w' ⟨s0_, s1_⟩
         have hc_ : w'.cell? ⟨g5, 3, none⟩ = some (.slice (some ⟨g173, 0, none⟩) s.slast.length ds13_3) := (Bk.cell s0_ 3).trans rfl
         first | (go_simp; done) | (go_simp; with_reducible rfl) | (go_simp; rfl)
        rotate_left
        ·simp only [Act.put, zzA, zzB, zzC, i64_w, i32_w]
         rfl
        refine pure_ (i := 2) (N := some 55) (v := ?_) (a' := ?_) #[T0, T0, T0, F0, F0, F0, F0, F0, F0, F0, F0, F0] rfl rfl (by kernel_rfl) (fun _ _ _ h => h) (Or.inl ⟨by rfl, ?_⟩) ?_ ?_
        rotate_left
        ·intro w'
         go_simp
         with_reducible rfl
        rotate_left
        ·simp only [Act.put, zzA, zzB, zzC, i64_w, i32_w]
         rfl
        refine take_ (i := 3) (N := some 56) (v := .slice (some ⟨g176, 0, none⟩) s.last.length ds13_2) (a' := ?_) #[T0, T0, T0, T0, F0, F0, F0, F0, F0, F0, F0, F0] rfl rfl (by kernel_rfl) (fun _ _ _ h => h) (Or.inl ⟨by rfl, ?_⟩) ⟨(Bk.below F64.out HB179.out), (show W178.cell? ⟨g176, 1, none⟩ = some (.int .i64 (rd s.last (1 : Int))) from (show W178.cell? ⟨g176, 1, none⟩ = some (.int .i64 (rd s.last (1 : Int))) from (StR.last_cell (StR.below F63.out HB179.out) HI175.out.1 HI175.out.2).2.2.1))⟩ ?_ ?_
        ·rintro w' ⟨s0_, s1_⟩
         have hc_ : w'.cell? ⟨g5, 2, none⟩ = some (.slice (some ⟨g176, 0, none⟩) s.last.length ds13_2) := (Bk.cell s0_ 2).trans rfl
         first | (go_simp; done) | (go_simp; with_reducible rfl) | (go_simp; rfl)
        rotate_left
        ·simp only [Act.put, zzA, zzB, zzC, i64_w, i32_w]
         rfl
        refine pure_ (i := 4) (N := some 57) (v := ?_) (a' := ?_) #[T0, T0, T0, T0, T0, F0, F0, F0, F0, F0, F0, F0] rfl rfl (by kernel_rfl) (fun _ _ _ h => h) (Or.inl ⟨by rfl, ?_⟩) ?_ ?_
        rotate_left
        ·intro w'
         go_simp
         with_reducible rfl
        rotate_left
        ·simp only [Act.put, zzA, zzB, zzC, i64_w, i32_w]
         rfl
        refine take_ (i := 5) (N := some 58) (v := .int .i64 (rd s.last (1 : Int))) (a' := ?_) #[T0, T0, T0, T0, T0, T0, F0, F0, F0, F0, F0, F0] rfl rfl (by kernel_rfl) (fun _ _ _ h => h) (Or.inl ⟨by rfl, ?_⟩) ⟨(Bk.below F64.out HB179.out), (show W178.cell? ⟨g176, 1, none⟩ = some (.int .i64 (rd s.last (1 : Int))) from (show W178.cell? ⟨g176, 1, none⟩ = some (.int .i64 (rd s.last (1 : Int))) from (StR.last_cell (StR.below F63.out HB179.out) HI175.out.1 HI175.out.2).2.2.1))⟩ ?_ ?_
        ·rintro w' ⟨s0_, s1_⟩
         first | (go_simp; done) | (go_simp; with_reducible rfl) | (go_simp; rfl)
        rotate_left
        ·simp only [Act.put, zzA, zzB, zzC, i64_w, i32_w]
         rfl
        refine pure_ (i := 6) (N := some 59) (v := ?_) (a' := ?_) #[T0, T0, T0, T0, T0, T0, T0, F0, F0, F0, F0, F0] rfl rfl (by kernel_rfl) (fun _ _ _ h => h) (Or.inl ⟨by rfl, ?_⟩) ?_ ?_
        rotate_left
        ·intro w'
         go_simp
         with_reducible rfl
        rotate_left
        ·simp only [Act.put, zzA, zzB, zzC, i64_w, i32_w]
         rfl
        refine one_ (i := 7) (N := some 60) #[T0, T0, T0, T0, T0, T0, T0, T0, F0, F0, F0, F0] rfl rfl (by kernel_rfl) (by decide) (fun K hK => ?_)
        refine lit_step (Kd.int .i64) 3 (by rfl) (N := 60) rfl (xs := ([1, (-1)] : List Int)) (inner := [.int .i64 1, .int .i64 (-1)]) (by first | (go_simp; done) | (go_simp; rfl)) (reps_int ([1, (-1)] : List Int)) (by simp) ?_
        intro A180 c181 W183 HL182 HB184
        refine hK.out _ _ ⟨(Bk.below F64.out (below_step HB179.out HB184.out)), (show W183.cell? ⟨g176, 1, none⟩ = some (.int .i64 (rd s.last (1 : Int))) from (show W183.cell? ⟨g176, 1, none⟩ = some (.int .i64 (rd s.last (1 : Int))) from (StR.last_cell (StR.below F63.out (below_step HB179.out HB184.out)) HI175.out.1 HI175.out.2).2.2.1))⟩ (fun hHeld => ?_)
        clear hHeld hK K
        refine norm_ (a' := ?_) ?_ ?_
        rotate_left
        ·show Act.put _ (some 60) _ = _
         simp only [Act.put, zzA, zzB, zzC, i64_w, i32_w]
         rfl
        refine one_ (i := 8) (N := some 61) #[T0, T0, T0, T0, T0, T0, T0, T0, T0, F0, F0, F0] rfl rfl (by kernel_rfl) (by decide) (fun K hK => ?_)
        refine goes_ Try.func64 (by kernel_rfl) rfl #[.pointer (some ⟨g, 0, none⟩), .slice A180 ([1, (-1)] : List Int).length c181] (by rfl) rfl rfl (by (try simp only [List.map_toArray, List.map_cons, List.map_nil]); first | done | rfl) ?_
        refine (num_c (m := m + 0) (Rd.below F65.out (below_step HB179.out HB184.out)) (below_step HB56.out (below_step HB179.out HB184.out)) HL182.out.1 HL182.out.2.1 (fun ad_ e_ h_ => (by have q_ := HL182.out.2.2 ad_ e_ h_; show ad_.block ≠ g; have z0_ := Z40.out; have z1_ := T58.out; have z2_ := GT174.out; have z3_ := GT177.out; have z4_ := HB179.out.size; have z5_ := HB184.out.size; omega)) (by decide)).mono ?_
        rintro e W190 ⟨r185, rfl, hm186, hR187, hb191, hk188⟩
        have z0_ := Z40.out
        have z1_ := T58.out
        have z2_ := GT174.out
        have z3_ := GT177.out
        have z4_ := HB179.out.size
        have z5_ := HB184.out.size
        have T193 := Ak (show g5 + 1 ≤ W183.heap.size from (by omega))
        have HB194 := Ak (hb191)
        have HK195 := Ak (hk188)
        have KP197 := Ak (Kept.then_ (Kept.below KP59.out (below_step HB179.out HB184.out)) HK195.out (fun _ h_ => Or.inl h_))
        have T196 := Ak (Nat.le_trans T193.out HK195.out.1)
        have F198 := Ak (StI.kept (StI.below F60.out (below_step HB179.out HB184.out)) HK195.out N51.out)
        have F199 := Ak (Bk.kept (Bk.below F61.out (below_step HB179.out HB184.out)) HK195.out N52.out)
        have F200 := Ak (Bk.kept (Bk.below F62.out (below_step HB179.out HB184.out)) HK195.out N53.out)
        have F201 := Ak (StR.kept (StR.below F63.out (below_step HB179.out HB184.out)) HK195.out N54.out)
        have F202 := Ak (Bk.kept (Bk.below F64.out (below_step HB179.out HB184.out)) HK195.out N55.out)
        have F203 := Ak (hR187)
        clear z0_ z1_ z2_ z3_ z4_ z5_ hb191 hk188 hR187
        have Z204 := Ak (And.intro Z40.out (And.intro GT174.out GT177.out))
        have HM189 := Ak hm186
        clear hm186
        refine ⟨_, rfl, ?_⟩
        refine hK.out _ _ ⟨F202.out, (show W190.cell? ⟨g176, 1, none⟩ = some (.int .i64 (rd s.last (1 : Int))) from (show W190.cell? ⟨g176, 1, none⟩ = some (.int .i64 (rd s.last (1 : Int))) from (StR.last_cell F201.out HI175.out.1 HI175.out.2).2.2.1))⟩ (fun hHeld => ?_)
        clear hHeld hK K
        refine norm_ (a' := ?_) ?_ ?_
        rotate_left
        ·show Act.put _ (some 61) _ = _
         simp only [Act.put, zzA, zzB, zzC, i64_w, i32_w]
         rfl
        refine pure_ (i := 9) (N := some 62) (v := ?_) (a' := ?_) #[T0, T0, T0, T0, T0, T0, T0, T0, T0, T0, F0, F0] rfl rfl (by kernel_rfl) (fun _ _ _ h => h) (Or.inl ⟨by rfl, ?_⟩) ?_ ?_
        rotate_left
        ·intro w'
         go_simp
         with_reducible rfl
        rotate_left
        ·simp only [Act.put, zzA, zzB, zzC, i64_w, i32_w]
         rfl
        refine pure_ (i := 10) (N := some 63) (v := ?_) (a' := ?_) #[T0, T0, T0, T0, T0, T0, T0, T0, T0, T0, T0, F0] rfl rfl (by kernel_rfl) (fun _ _ _ h => h) (Or.inl ⟨by rfl, ?_⟩) ?_ ?_
        rotate_left
        ·intro w'
         go_simp
         with_reducible rfl
        rotate_left
        ·simp only [Act.put, zzA, zzB, zzC, i64_w, i32_w]
         rfl
        refine last_ (i := 11) (N := none) #[T0, T0, T0, T0, T0, T0, T0, T0, T0, T0, T0, T0] rfl rfl (by kernel_rfl) (by decide) (fun K hK => ?_)
        refine skip_ (w1 := W190.setCell ⟨g173, (1 : Int).toNat, none⟩ (.int .i64 (wrap64 ((rd s.last (1 : Int)) + r185)))) (by rfl) rfl ?_ ?_
        ·have hc_ := (show W190.cell? ⟨g173, 1, none⟩ = some (.int .i64 (rd s.slast (1 : Int))) from (StR.slast_cell F201.out HI172.out.1 HI172.out.2).2.2.1)
         have hf_ := (show W190.frozen? ⟨g173, 1, none⟩ = false from (StR.slast_cell F201.out HI172.out.1 HI172.out.2).2.2.2.1)
         first | (go_simp; done) | (go_simp; rfl)
        refine hK.out _ _ ?_
        clear hK K
        refine done_ (by kernel_rfl) ?_
        refine set_event (fun W205 e206 => ?_)
        have z0_ := Z204.out; have z1_ := T196.out; have T207 := Ak (show g5 + 1 ≤ W190.heap.size from (by omega)); have HB208 := Ak (below_at HB194.out (below_setcell e206) (by show w0.heap.size ≤ g173; omega)); have HK209 := Ak (kept_set e206); have KP211 := Ak (kept_new KP197.out HK209.out (by show w.heap.size ≤ g173; omega)); have T210 := Ak (Nat.le_trans T207.out HK209.out.1); have F212 := Ak (StI.kept F198.out HK209.out (fun k_ h_ => (by obtain ⟨h1_, h2_⟩ := h_; omega))); have F213 := Ak (Bk.kept F199.out HK209.out (fun h_ => (by obtain ⟨h1_, h2_⟩ := h_; omega))); have F214 := Ak (Bk.kept F200.out HK209.out (fun h_ => (by obtain ⟨h1_, h2_⟩ := h_; omega))); have F215 := Ak ((StR.slast_cell F201.out HI172.out.1 HI172.out.2).2.2.2.2 ((wrap64 ((rd s.last (1 : Int)) + r185))) _ e206); have F216 := Ak (Bk.kept F202.out HK209.out (fun h_ => (by obtain ⟨h1_, h2_⟩ := h_; omega))); have F217 := Ak (Rd.kept F203.out HK209.out (fun h_ => (by obtain ⟨h1_, h2_⟩ := h_; omega))); clear z0_ z1_ e206
        try go_wp2
        go_meet
        case rel => exact ⟨_, _, _, _, _, _, _, _, _, _, _, _, _, _, _, { s with slast := s.slast.set (1 : Int).toNat ((wrap64 ((rd s.last (1 : Int)) + r185))) }, ⟨F213.out⟩, ⟨F214.out⟩, ⟨F216.out⟩, ⟨F212.out⟩, ⟨StR.toI F215.out⟩, ⟨Rd.less F217.out (by omega)⟩, ⟨HB208.out⟩, ⟨KP211.out⟩, ⟨(by show g5 + 1 ≤ W205.heap.size; have z0_ := Z204.out; have z1_ := T210.out; omega)⟩, ⟨(small_slast HS0.out)⟩, ⟨HZ0.out⟩⟩
       ·have d170 : decide (1 < (s.last.length : Int)) = false := decide_eq_false (by omega)
        (first | rw [d170] | (simp only [i64_w, i32_w]; rw [d170]) | skip)
        have K171 := Ak c169
        clear c169
        try go_wp2
        go_meet
        case rel => exact ⟨_, _, _, _, _, _, _, _, _, _, _, _, _, _, _, s, ⟨F61.out⟩, ⟨F62.out⟩, ⟨F64.out⟩, ⟨F60.out⟩, ⟨StR.toI F63.out⟩, ⟨Rd.less F65.out (by omega)⟩, ⟨HB56.out⟩, ⟨KP59.out⟩, ⟨(by show g5 + 1 ≤ W47.heap.size; have z0_ := Z40.out; have z1_ := T58.out; omega)⟩, ⟨HS0.out⟩, ⟨HZ0.out⟩⟩
      ·have d167 : decide (1 < (s.slast.length : Int)) = false := decide_eq_false (by omega)
       (first | rw [d167] | (simp only [i64_w, i32_w]; rw [d167]) | skip)
       have K168 := Ak c166
       clear c166
       try go_wp2_with (first | ((with_reducible refine gate_dst (N := 44) rfl ?_); refine ev_val (by rfl) (v := .slice as13_3 s.slast.length ds13_3) ?hr ?_; (case hr => have hc_ : W47.cell? ⟨g5, 3, none⟩ = some (.slice as13_3 s.slast.length ds13_3) := (Bk.cell F64.out 3).trans rfl; first | (go_simp; done) | (go_simp; rfl))))
       go_meet
       case rel => exact ⟨_, _, _, _, _, _, _, _, _, _, _, _, _, _, _, s, ⟨F61.out⟩, ⟨F62.out⟩, ⟨F64.out⟩, ⟨F60.out⟩, ⟨StR.toI F63.out⟩, ⟨Rd.less F65.out (by omega)⟩, ⟨HB56.out⟩, ⟨KP59.out⟩, ⟨(by show g5 + 1 ≤ W47.heap.size; have z0_ := Z40.out; have z1_ := T58.out; omega)⟩, ⟨HS0.out⟩, ⟨HZ0.out⟩⟩
     ·have d164 : (r41 == 3) = false := beq_eq_false_iff_ne.mpr c163
      (first | rw [d164] | (simp only [i64_w, i32_w]; rw [d164]) | skip)
      have K165 := Ak c163
      clear c163
      go_upto_if 64 with (fail)
      by_cases c218 : r41 = 4
      ·have d219 : (r41 == 4) = true := beq_iff_eq.mpr c218
       (first | rw [d219] | (simp only [i64_w, i32_w]; rw [d219]) | skip)
       have K220 := Ak c218
       clear c218
       go_upto_if 69 with (first | ((with_reducible refine gate_dst (N := 67) rfl ?_); refine ev_val (by rfl) (v := .slice as13_4 s.floors.length ds13_4) ?hr ?_; (case hr => have hc_ : W47.cell? ⟨g5, 4, none⟩ = some (.slice as13_4 s.floors.length ds13_4) := (Bk.cell F64.out 4).trans rfl; first | (go_simp; done) | (go_simp; rfl))))
       by_cases c221 : (s.floors.length : Int) > 0
       ·have d222 : decide (0 < s.floors.length) = true := decide_eq_true (by omega)
        (first | rw [d222] | (simp only [i64_w, i32_w]; rw [d222]) | skip)
        have K223 := Ak c221
        clear c221
        go_upto_region 17 with (fail)
        have HI224 := Ak (show (0 : Int) ≤ (0 : Int) ∧ (0 : Int) < ((s.floors).length : Int) from (by have i0_ := HP46.out; have i1_ := K69.out; have i2_ := K93.out; have i3_ := K116.out; have i4_ := K165.out; have i5_ := K220.out; have i6_ := K223.out; exact ⟨by omega, by omega⟩))
        obtain ⟨g225, rfl⟩ := StR.floors_form F63.out HI224.out.1 HI224.out.2
        have qHI224 : (0 < (s.floors).length) = True := eq_true (by have := HI224.out.2; omega)
        have GT226 := Ak (And.intro (StR.floors_cell F63.out HI224.out.1 HI224.out.2).1 (StR.floors_cell F63.out HI224.out.1 HI224.out.2).2.1)
        go_wp2_with (fail)
        refine start_ (n := 7) (S := fun w' => Bk w' g5 #[.slice as13_0 s.now.length ds13_0, .slice as13_1 s.sure.length ds13_1, .slice as13_2 s.last.length ds13_2, .slice as13_3 s.slast.length ds13_3, .slice (some ⟨g225, 0, none⟩) s.floors.length ds13_4] 26) (ds := [6]) #[false, false, false, false, false, false, false] (by kernel_rfl) rfl rfl (show Bk W47 g5 #[.slice as13_0 s.now.length ds13_0, .slice as13_1 s.sure.length ds13_1, .slice as13_2 s.last.length ds13_2, .slice as13_3 s.slast.length ds13_3, .slice (some ⟨g225, 0, none⟩) s.floors.length ds13_4] 26 from F64.out) (fun hHeld => ?_)
        clear hHeld
        refine world_at (w := W47) (below_drew0 _) (fun W227 HB228 => ?_)
        refine pure_ (i := 0) (N := some 70) (v := ?_) (a' := ?_) #[T0, F0, F0, F0, F0, F0, F0] rfl rfl (by kernel_rfl) (fun _ _ _ h => h) (Or.inl ⟨by rfl, ?_⟩) ?_ ?_
        rotate_left
        ·intro w'
         go_simp
         with_reducible rfl
        rotate_left
        ·simp only [Act.put, zzA, zzB, zzC, i64_w, i32_w]
         rfl
        refine take_ (i := 1) (N := some 71) (v := .slice (some ⟨g225, 0, none⟩) s.floors.length ds13_4) (a' := ?_) #[T0, T0, F0, F0, F0, F0, F0] rfl rfl (by kernel_rfl) (fun _ _ _ h => h) (Or.inl ⟨by rfl, ?_⟩) (Bk.below F64.out HB228.out) ?_ ?_
        ·rintro w' s0_
         have hc_ : w'.cell? ⟨g5, 4, none⟩ = some (.slice (some ⟨g225, 0, none⟩) s.floors.length ds13_4) := (Bk.cell s0_ 4).trans rfl
         first | (go_simp; done) | (go_simp; with_reducible rfl) | (go_simp; rfl)
        rotate_left
        ·simp only [Act.put, zzA, zzB, zzC, i64_w, i32_w]
         rfl
        refine pure_ (i := 2) (N := some 72) (v := ?_) (a' := ?_) #[T0, T0, T0, F0, F0, F0, F0] rfl rfl (by kernel_rfl) (fun _ _ _ h => h) (Or.inl ⟨by rfl, ?_⟩) ?_ ?_
        rotate_left
        ·intro w'
         go_simp
         with_reducible rfl
        rotate_left
        ·simp only [Act.put, zzA, zzB, zzC, i64_w, i32_w]
         rfl
        refine one_ (i := 3) (N := some 73) #[T0, T0, T0, T0, F0, F0, F0] rfl rfl (by kernel_rfl) (by decide) (fun K hK => ?_)
        refine lit_step (Kd.int .i64) 3 (by rfl) (N := 73) rfl (xs := ([(-1), 100, 101] : List Int)) (inner := [.int .i64 (-1), .int .i64 100, .int .i64 101]) (by first | (go_simp; done) | (go_simp; rfl)) (reps_int ([(-1), 100, 101] : List Int)) (by simp) ?_
        intro A229 c230 W232 HL231 HB233
        refine hK.out _ _ (Bk.below F64.out (below_step HB228.out HB233.out)) (fun hHeld => ?_)
        clear hHeld hK K
        refine norm_ (a' := ?_) ?_ ?_
        rotate_left
        ·show Act.put _ (some 73) _ = _
         simp only [Act.put, zzA, zzB, zzC, i64_w, i32_w]
         rfl
        refine one_ (i := 4) (N := some 74) #[T0, T0, T0, T0, T0, F0, F0] rfl rfl (by kernel_rfl) (by decide) (fun K hK => ?_)
        refine goes_ Try.func64 (by kernel_rfl) rfl #[.pointer (some ⟨g, 0, none⟩), .slice A229 ([(-1), 100, 101] : List Int).length c230] (by rfl) rfl rfl (by (try simp only [List.map_toArray, List.map_cons, List.map_nil]); first | done | rfl) ?_
        refine (num_c (m := m + 0) (Rd.below F65.out (below_step HB228.out HB233.out)) (below_step HB56.out (below_step HB228.out HB233.out)) HL231.out.1 HL231.out.2.1 (fun ad_ e_ h_ => (by have q_ := HL231.out.2.2 ad_ e_ h_; show ad_.block ≠ g; have z0_ := Z40.out; have z1_ := T58.out; have z2_ := GT226.out; have z3_ := HB228.out.size; have z4_ := HB233.out.size; omega)) (by decide)).mono ?_
        rintro e W239 ⟨r234, rfl, hm235, hR236, hb240, hk237⟩
        have z0_ := Z40.out
        have z1_ := T58.out
        have z2_ := GT226.out
        have z3_ := HB228.out.size
        have z4_ := HB233.out.size
        have T242 := Ak (show g5 + 1 ≤ W232.heap.size from (by omega))
        have HB243 := Ak (hb240)
        have HK244 := Ak (hk237)
        have KP246 := Ak (Kept.then_ (Kept.below KP59.out (below_step HB228.out HB233.out)) HK244.out (fun _ h_ => Or.inl h_))
        have T245 := Ak (Nat.le_trans T242.out HK244.out.1)
        have F247 := Ak (StI.kept (StI.below F60.out (below_step HB228.out HB233.out)) HK244.out N51.out)
        have F248 := Ak (Bk.kept (Bk.below F61.out (below_step HB228.out HB233.out)) HK244.out N52.out)
        have F249 := Ak (Bk.kept (Bk.below F62.out (below_step HB228.out HB233.out)) HK244.out N53.out)
        have F250 := Ak (StR.kept (StR.below F63.out (below_step HB228.out HB233.out)) HK244.out N54.out)
        have F251 := Ak (Bk.kept (Bk.below F64.out (below_step HB228.out HB233.out)) HK244.out N55.out)
        have F252 := Ak (hR236)
        clear z0_ z1_ z2_ z3_ z4_ hb240 hk237 hR236
        have Z253 := Ak (And.intro Z40.out GT226.out)
        have HM238 := Ak hm235
        clear hm235
        refine ⟨_, rfl, ?_⟩
        refine hK.out _ _ F251.out (fun hHeld => ?_)
        clear hHeld hK K
        refine norm_ (a' := ?_) ?_ ?_
        rotate_left
        ·show Act.put _ (some 74) _ = _
         simp only [Act.put, zzA, zzB, zzC, i64_w, i32_w]
         rfl
        refine pure_ (i := 5) (N := some 75) (v := ?_) (a' := ?_) #[T0, T0, T0, T0, T0, T0, F0] rfl rfl (by kernel_rfl) (fun _ _ _ h => h) (Or.inl ⟨by rfl, ?_⟩) ?_ ?_
        rotate_left
        ·intro w'
         go_simp
         with_reducible rfl
        rotate_left
        ·simp only [Act.put, zzA, zzB, zzC, i64_w, i32_w]
         rfl
        refine last_ (i := 6) (N := none) #[T0, T0, T0, T0, T0, T0, T0] rfl rfl (by kernel_rfl) (by decide) (fun K hK => ?_)
        refine skip_ (w1 := W239.setCell ⟨g225, (0 : Int).toNat, none⟩ (.int .i64 r234)) (by rfl) rfl ?_ ?_
        ·have hc_ := (show W239.cell? ⟨g225, 0, none⟩ = some (.int .i64 (rd s.floors (0 : Int))) from (StR.floors_cell F250.out HI224.out.1 HI224.out.2).2.2.1)
         have hf_ := (show W239.frozen? ⟨g225, 0, none⟩ = false from (StR.floors_cell F250.out HI224.out.1 HI224.out.2).2.2.2.1)
         first | (go_simp; done) | (go_simp; rfl)
        refine hK.out _ _ ?_
        clear hK K
        refine done_ (by kernel_rfl) ?_
        refine set_event (fun W254 e255 => ?_)
        have z0_ := Z253.out; have z1_ := T245.out; have T256 := Ak (show g5 + 1 ≤ W239.heap.size from (by omega)); have HB257 := Ak (below_at HB243.out (below_setcell e255) (by show w0.heap.size ≤ g225; omega)); have HK258 := Ak (kept_set e255); have KP260 := Ak (kept_new KP246.out HK258.out (by show w.heap.size ≤ g225; omega)); have T259 := Ak (Nat.le_trans T256.out HK258.out.1); have F261 := Ak (StI.kept F247.out HK258.out (fun k_ h_ => (by obtain ⟨h1_, h2_⟩ := h_; omega))); have F262 := Ak (Bk.kept F248.out HK258.out (fun h_ => (by obtain ⟨h1_, h2_⟩ := h_; omega))); have F263 := Ak (Bk.kept F249.out HK258.out (fun h_ => (by obtain ⟨h1_, h2_⟩ := h_; omega))); have F264 := Ak ((StR.floors_cell F250.out HI224.out.1 HI224.out.2).2.2.2.2 (r234) _ e255); have F265 := Ak (Bk.kept F251.out HK258.out (fun h_ => (by obtain ⟨h1_, h2_⟩ := h_; omega))); have F266 := Ak (Rd.kept F252.out HK258.out (fun h_ => (by obtain ⟨h1_, h2_⟩ := h_; omega))); clear z0_ z1_ e255
        try go_wp2
        go_meet
        case rel => exact ⟨_, _, _, _, _, _, _, _, _, _, _, _, _, _, _, { s with floors := s.floors.set (0 : Int).toNat (r234) }, ⟨F262.out⟩, ⟨F263.out⟩, ⟨F265.out⟩, ⟨F261.out⟩, ⟨StR.toI F264.out⟩, ⟨Rd.less F266.out (by omega)⟩, ⟨HB257.out⟩, ⟨KP260.out⟩, ⟨(by show g5 + 1 ≤ W254.heap.size; have z0_ := Z253.out; have z1_ := T259.out; omega)⟩, ⟨(small_floors HS0.out)⟩, ⟨HZ0.out⟩⟩
       ·have d222 : decide (0 < s.floors.length) = false := decide_eq_false (by omega)
        (first | rw [d222] | (simp only [i64_w, i32_w]; rw [d222]) | skip)
        have K223 := Ak c221
        clear c221
        try go_wp2
        go_meet
        case rel => exact ⟨_, _, _, _, _, _, _, _, _, _, _, _, _, _, _, s, ⟨F61.out⟩, ⟨F62.out⟩, ⟨F64.out⟩, ⟨F60.out⟩, ⟨StR.toI F63.out⟩, ⟨Rd.less F65.out (by omega)⟩, ⟨HB56.out⟩, ⟨KP59.out⟩, ⟨(by show g5 + 1 ≤ W47.heap.size; have z0_ := Z40.out; have z1_ := T58.out; omega)⟩, ⟨HS0.out⟩, ⟨HZ0.out⟩⟩
      ·have d219 : (r41 == 4) = false := beq_eq_false_iff_ne.mpr c218
       (first | rw [d219] | (simp only [i64_w, i32_w]; rw [d219]) | skip)
       have K220 := Ak c218
       clear c218
       go_upto_if 76 with (fail)
       by_cases c267 : r41 = 5
       ·have d268 : (r41 == 5) = true := beq_iff_eq.mpr c267
        (first | rw [d268] | (simp only [i64_w, i32_w]; rw [d268]) | skip)
        have K269 := Ak c267
        clear c267
        try go_wp2_with (first | ((with_reducible refine gate_store (t := 24) (p := 78) rfl ?_); refine ev_setcell (by rfl) rfl (g := g5) (i := 4) (v := .slice none 0 0) ?hr ?_; (case hr => have hc_ : W47.cell? ⟨g5, 4, none⟩ = some (.slice as13_4 s.floors.length ds13_4) := (Bk.cell F64.out 4).trans rfl; have hf_ := Bk.hot F64.out 4; first | (go_simp; done) | (go_simp; rfl)); intro W270 e271; have z0_ := Z40.out; have z1_ := T58.out; have T272 := Ak (show g5 + 1 ≤ W47.heap.size from (by omega)); have HB273 := Ak (below_at HB56.out (below_setcell e271) (by show w0.heap.size ≤ g5; omega)); have HK274 := Ak (kept_set e271); have KP276 := Ak (kept_new KP59.out HK274.out (by show w.heap.size ≤ g5; omega)); have T275 := Ak (Nat.le_trans T272.out HK274.out.1); have F277 := Ak (StI.kept F60.out HK274.out (fun k_ h_ => (by obtain ⟨h1_, h2_⟩ := h_; omega))); have F278 := Ak (Bk.kept F61.out HK274.out (fun h_ => (by obtain ⟨h1_, h2_⟩ := h_; omega))); have F279 := Ak (Bk.kept F62.out HK274.out (fun h_ => (by obtain ⟨h1_, h2_⟩ := h_; omega))); have F280 := Ak (StR.nil_floors (StR.kept F63.out HK274.out (fun k_ h_ => (by obtain ⟨h1_, h2_⟩ := h_; omega)))); have F281 := Ak (Bk.put F64.out e271 rfl); have F282 := Ak (Rd.kept F65.out HK274.out (fun h_ => (by obtain ⟨h1_, h2_⟩ := h_; omega))); clear z0_ z1_ e271))
        go_meet
        case rel => exact ⟨_, _, _, _, _, _, _, _, _, _, _, _, _, _, _, { s with floors := [] }, ⟨F278.out⟩, ⟨F279.out⟩, ⟨F281.out⟩, ⟨F277.out⟩, ⟨StR.toI F280.out⟩, ⟨Rd.less F282.out (by omega)⟩, ⟨HB273.out⟩, ⟨KP276.out⟩, ⟨(by show g5 + 1 ≤ W270.heap.size; have z0_ := Z40.out; have z1_ := T275.out; omega)⟩, ⟨(small_nil HS0.out)⟩, ⟨HZ0.out⟩⟩
       ·have d268 : (r41 == 5) = false := beq_eq_false_iff_ne.mpr c267
        (first | rw [d268] | (simp only [i64_w, i32_w]; rw [d268]) | skip)
        have K269 := Ak c267
        clear c267
        try go_wp2
        go_meet
        case rel => exact ⟨_, _, _, _, _, _, _, _, _, _, _, _, _, _, _, s, ⟨F61.out⟩, ⟨F62.out⟩, ⟨F64.out⟩, ⟨F60.out⟩, ⟨StR.toI F63.out⟩, ⟨Rd.less F65.out (by omega)⟩, ⟨HB56.out⟩, ⟨KP59.out⟩, ⟨(by show g5 + 1 ≤ W47.heap.size; have z0_ := Z40.out; have z1_ := T58.out; omega)⟩, ⟨HS0.out⟩, ⟨HZ0.out⟩⟩
 case rest =>
  obtain ⟨W66, hW_⟩ : ∃ x_, x_ = wc := ⟨_, rfl⟩
  subst hW_
  obtain ⟨b0_, n0_, e0_, b1_, n1_, e1_, b2_, n2_, e2_, b3_, n3_, e3_, b4_, n4_, e4_, t_, BK283, BK284, BK285, HR286, HR287, RD288, HB289, KP290, HZ291, HX292, HX293⟩ := hcut
  have HSt := HX292
  have HZt := HX293
  go_wp2_with (first | ((with_reducible refine gate_dst (N := 79) rfl ?_); refine ev_load rfl (N := 79) rfl rfl (g := g5) rfl (cs := #[.slice b0_ n0_ e0_, .slice b1_ n1_ e1_, .slice b2_ n2_ e2_, .slice b3_ n3_ e3_, .slice b4_ n4_ e4_]) BK285.out hu26 rfl (by kernel_rfl) ?_) | ((with_reducible refine gate_store (t := 26) (p := 4) rfl ?_); refine ev_put (by rfl) rfl rfl (g := g4) rfl (cs := #[.slice b0_ n0_ e0_, .slice b1_ n1_ e1_, .slice b2_ n2_ e2_, .slice b3_ n3_ e3_, .slice b4_ n4_ e4_]) rfl BK284.out (by kernel_rfl) rfl rfl ?_; intro W294 BK295 HB296 HK297; have z0_ := Z40.out; have z1_ := HZ291.out; have T298 := Ak (show g5 + 1 ≤ W66.heap.size from (by omega)); have HB299 := Ak (below_at HB289.out HB296.out (by show w0.heap.size ≤ g4; omega)); have HK300 := Ak (HK297.out); have KP302 := Ak (kept_new KP290.out HK300.out (by show w.heap.size ≤ g4; omega)); have T301 := Ak (Nat.le_trans T298.out HK300.out.1); have F303 := Ak (StI.kept HR286.out HK300.out (fun k_ h_ => (by obtain ⟨h1_, h2_⟩ := h_; omega))); have F304 := Ak (Bk.kept BK283.out HK300.out (fun h_ => (by obtain ⟨h1_, h2_⟩ := h_; omega))); have F305 := Ak (BK295.out); have F306 := Ak (StI.kept HR287.out HK300.out (fun k_ h_ => (by obtain ⟨h1_, h2_⟩ := h_; omega))); have F307 := Ak (Bk.kept BK285.out HK300.out (fun h_ => (by obtain ⟨h1_, h2_⟩ := h_; omega))); have F308 := Ak (Rd.kept RD288.out HK300.out (fun h_ => (by obtain ⟨h1_, h2_⟩ := h_; omega))); clear z0_ z1_))
  try go_wp2
  refine bodyPost_ret (results_cell_row rfl _ _ g4 26 #[.slice b0_ n0_ e0_, .slice b1_ n1_ e1_, .slice b2_ n2_ e2_, .slice b3_ n3_ e3_, .slice b4_ n4_ e4_] (0, 0) _ rfl F305.out hu26 rfl (by kernel_rfl)) rfl ?_
  have HWI := StI.widen F306.out (lo' := w.heap.size) (hi' := W294.heap.size) (by have z0_ := Z40.out; have z1_ := T301.out; omega) (by have z0_ := Z40.out; have z1_ := T301.out; omega); have HRL := Rd.less F308.out (show m ≤ _ by omega); first | exact ⟨_, _, rfl, HWI, HSt.out, HZt.out, HRL, HB299.out, KP302.out⟩ | exact ⟨_, rfl, _, HWI, HSt.out, HZt.out, HRL, HB299.out, KP302.out⟩
end Go.Proofs.Ytmekkapacbdbeaa.P
namespace Go.Proofs.Ytmekkapacbdbeaa.P
open Go.RowKit Go.Proofs.YtmekkapacbdbeaaW.PrintWords Go.Proofs.YtmekkapacbdbeaaW.PrintLast Go.Proofs.YtmekkapacbdbeaaW.PrintMore
attribute [local go_sem] max2_int min2_int max_two min_two max_three min_three max_four min_four   
set_option linter.unusedVariables false
set_option linter.unusedSimpArgs false
def spec_l2Long.l0 : Nat → ByteArray → Int → Option (ByteArray)
 | 0, _, _ => none
 | k + 1, x0, x1 => if (x0.size : Int) < x1 then (if x0.size + 1 ≤ 9223372036854775807 then (spec_l2Long.l0 k (x0 ++ (⟨#[46]⟩ : ByteArray)) x1) else (none)) else (some x0)
def spec_l2Long.f (k : Nat) (a0 : ByteArray) (a1 : Int) : Option (ByteArray) := spec_l2Long.l0 k a0 a1
set_option maxHeartbeats 8000000 in
set_option maxRecDepth 100000 in
theorem spec_l2Long.calls (k : Nat) (a0 : ByteArray) (a1 : Int) (r : ByteArray) (w : World) (h : spec_l2Long.f k a0 a1 = some r) :
  Calls Try.prog 80 #[.string a0, .int .i64 a1] w fun e w' => e = .returned (.string r) ∧ Drawn0 w w' := by
 have H : (spec_l2Long.l0 k a0 a1) = some r := h
 clear h
 have H' := Ak H
 clear H
 go_enter Try.func80, Try.ntmps80
 go_wp2
 go_loopg [0] k (fun kq v0 w' => ∃ (x0_1 : ByteArray), v0 = .string x0_1 ∧ Aside0 (spec_l2Long.l0 kq x0_1 a1 = some r) ∧ Aside0 (kq ≤ k) ∧ Drawn0 w w')
 case atStart => exact ⟨(a0), (by first | rfl | (simp; done) | (simp [*]; done)), H', ⟨Nat.le_refl _⟩, by repeat (first | exact Drawn0.refl _ | apply Drawn0.step)⟩
 case round =>
  clear H'
  try clear p2
  obtain ⟨x0_1, rfl, HA, HK1, ⟨m1, rfl⟩⟩ := hrel
  cases gk with
  | zero => exact absurd HA.out (by simp [spec_l2Long.l0])
  | succ k1 =>
   have H := HA.out
   clear HA
   simp only [spec_l2Long.l0] at H
   by_cases c3 : (x0_1.size : Int) < a1
   ·rw [if_pos c3] at H
    have c3b0 : decide ((x0_1.size : Int) < a1) = true := decide_eq_true c3
    clear c3
    by_cases c4 : x0_1.size + 1 ≤ 9223372036854775807
    ·rw [if_pos c4] at H
     have c4b0 := eq_true c4
     have c4b1 : decide (x0_1.size + 1 ≤ 9223372036854775807) = true := decide_eq_true c4
     try have c4b2 : (9223372036854775807 < x0_1.size + 1) = False := eq_false (Nat.not_lt.2 c4)
     have H' := Ak H
     clear H
     go_wp2
     go_roundg k1
     case measure => have := HK1.out; omega
     case rel => exact ⟨(x0_1 ++ (⟨#[46]⟩ : ByteArray)), (by first | rfl | (simp; done) | (simp [*]; done)), H', ⟨by have := HK1.out; omega⟩, by repeat (first | exact Drawn0.refl _ | apply Drawn0.step)⟩
    ·rw [if_neg c4] at H
     exact absurd H (by simp)
   ·rw [if_neg c3] at H
    have c3b0 : decide ((x0_1.size : Int) < a1) = false := decide_eq_false c3
    clear c3
    obtain rfl := Option.some.inj H
    go_wp2
    go_ret
    exact ⟨by first | rfl | (simp; done) | (simp [*]; done), by repeat (first | exact Drawn0.refl _ | apply Drawn0.step)⟩
def spec_l2Write.f (k : Nat) (a0 : ByteArray) (a1 : Int) (a2 : ByteArray) : Option (ByteArray) := (spec_l2Long.f k a0 a1).bind fun t278 => (if 0 ≤ a1 then (if a1 ≤ (t278.size : Int) then (if (t278.extract 0 (a1 : Int).toNat).size + a2.size ≤ 9223372036854775807 then ((spec_l1Min.f (t278.size : Int) (wrap64 (a1 + (a2.size : Int)))).bind fun t279 => (if 0 ≤ t279 then (if t279 ≤ (t278.size : Int) then (if ((t278.extract 0 (a1 : Int).toNat) ++ a2).size + (t278.extract (t279 : Int).toNat t278.size).size ≤ 9223372036854775807 then (some (((t278.extract 0 (a1 : Int).toNat) ++ a2) ++ (t278.extract (t279 : Int).toNat t278.size))) else (none)) else (none)) else (none))) else (none)) else (none)) else (none))
set_option maxHeartbeats 8000000 in
set_option maxRecDepth 100000 in
theorem spec_l2Write.calls (k : Nat) (a0 : ByteArray) (a1 : Int) (a2 : ByteArray) (r : ByteArray) (w : World) (h : spec_l2Write.f k a0 a1 a2 = some r) :
  Calls Try.prog 74 #[.string a0, .int .i64 a1, .string a2] w fun e w' => e = .returned (.string r) ∧ Drawn0 w w' := by
 have H : ((spec_l2Long.f k a0 a1).bind fun t278 => (if 0 ≤ a1 then (if a1 ≤ (t278.size : Int) then (if (t278.extract 0 (a1 : Int).toNat).size + a2.size ≤ 9223372036854775807 then ((spec_l1Min.f (t278.size : Int) (wrap64 (a1 + (a2.size : Int)))).bind fun t279 => (if 0 ≤ t279 then (if t279 ≤ (t278.size : Int) then (if ((t278.extract 0 (a1 : Int).toNat) ++ a2).size + (t278.extract (t279 : Int).toNat t278.size).size ≤ 9223372036854775807 then (some (((t278.extract 0 (a1 : Int).toNat) ++ a2) ++ (t278.extract (t279 : Int).toNat t278.size))) else (none)) else (none)) else (none))) else (none)) else (none)) else (none))) = some r := h
 clear h
 replace H := Option.bind_eq_some_iff.mp H
 obtain ⟨t278, A40, H⟩ := H
 replace H : (if 0 ≤ a1 then (if a1 ≤ (t278.size : Int) then (if (t278.extract 0 (a1 : Int).toNat).size + a2.size ≤ 9223372036854775807 then ((spec_l1Min.f (t278.size : Int) (wrap64 (a1 + (a2.size : Int)))).bind fun t279 => (if 0 ≤ t279 then (if t279 ≤ (t278.size : Int) then (if ((t278.extract 0 (a1 : Int).toNat) ++ a2).size + (t278.extract (t279 : Int).toNat t278.size).size ≤ 9223372036854775807 then (some (((t278.extract 0 (a1 : Int).toNat) ++ a2) ++ (t278.extract (t279 : Int).toNat t278.size))) else (none)) else (none)) else (none))) else (none)) else (none)) else (none)) = some r := H
 have A4 := Ak A40
 clear A40
 by_cases c5 : 0 ≤ a1
 ·rw [if_pos c5] at H
  have c5b0 := eq_true c5
  have c5b1 : decide (0 ≤ a1) = true := decide_eq_true c5
  clear c5
  by_cases c6 : a1 ≤ (t278.size : Int)
  ·rw [if_pos c6] at H
   have c6b0 := eq_true c6
   have c6b1 : decide (a1 ≤ (t278.size : Int)) = true := decide_eq_true c6
   clear c6
   by_cases c7 : (t278.extract 0 (a1 : Int).toNat).size + a2.size ≤ 9223372036854775807
   ·rw [if_pos c7] at H
    have c7b0 := eq_true c7
    have c7b1 : decide ((t278.extract 0 (a1 : Int).toNat).size + a2.size ≤ 9223372036854775807) = true := decide_eq_true c7
    try have c7b2 : (9223372036854775807 < (t278.extract 0 (a1 : Int).toNat).size + a2.size) = False := eq_false (Nat.not_lt.2 c7)
    replace H := Option.bind_eq_some_iff.mp H
    obtain ⟨t279, A80, H⟩ := H
    replace H : (if 0 ≤ t279 then (if t279 ≤ (t278.size : Int) then (if ((t278.extract 0 (a1 : Int).toNat) ++ a2).size + (t278.extract (t279 : Int).toNat t278.size).size ≤ 9223372036854775807 then (some (((t278.extract 0 (a1 : Int).toNat) ++ a2) ++ (t278.extract (t279 : Int).toNat t278.size))) else (none)) else (none)) else (none)) = some r := H
    have A8 := Ak A80
    clear A80
    by_cases c9 : 0 ≤ t279
    ·rw [if_pos c9] at H
     have c9b0 := eq_true c9
     have c9b1 : decide (0 ≤ t279) = true := decide_eq_true c9
     clear c9
     by_cases c10 : t279 ≤ (t278.size : Int)
     ·rw [if_pos c10] at H
      have c10b0 := eq_true c10
      have c10b1 : decide (t279 ≤ (t278.size : Int)) = true := decide_eq_true c10
      clear c10
      by_cases c11 : ((t278.extract 0 (a1 : Int).toNat) ++ a2).size + (t278.extract (t279 : Int).toNat t278.size).size ≤ 9223372036854775807
      ·rw [if_pos c11] at H
       have c11b0 := eq_true c11
       have c11b1 : decide (((t278.extract 0 (a1 : Int).toNat) ++ a2).size + (t278.extract (t279 : Int).toNat t278.size).size ≤ 9223372036854775807) = true := decide_eq_true c11
       try have c11b2 : (9223372036854775807 < ((t278.extract 0 (a1 : Int).toNat) ++ a2).size + (t278.extract (t279 : Int).toNat t278.size).size) = False := eq_false (Nat.not_lt.2 c11)
       obtain rfl := Option.some.inj H
       go_enter Try.func74, Try.ntmps74
       go_wp2_with (first | (go_at_call 80; (with_reducible refine (spec_l2Long.calls k a0 a1 t278 _ A4.out).mono ?_); rintro e w' ⟨rfl, ⟨nd, rfl⟩⟩; (try first | exact ⟨rfl, _, World.drewN_drewN _ _ _⟩ | exact ⟨rfl, _, Eq.trans (World.drewN_drewN _ _ _) (congrArg (World.drewN _) (Nat.add_assoc _ _ _))⟩)) | (go_at_call 78; (with_reducible refine (spec_l1Min.calls (t278.size : Int) (wrap64 (a1 + (a2.size : Int))) t279 _ A8.out).mono ?_); rintro e w' ⟨rfl, ⟨nd, rfl⟩⟩; (try first | exact ⟨rfl, _, World.drewN_drewN _ _ _⟩ | exact ⟨rfl, _, Eq.trans (World.drewN_drewN _ _ _) (congrArg (World.drewN _) (Nat.add_assoc _ _ _))⟩)))
       repeat (go_quiet (first | (go_at_call 80; (with_reducible refine (spec_l2Long.calls k a0 a1 t278 _ A4.out).mono ?_); rintro e w' ⟨rfl, ⟨nd, rfl⟩⟩; (try first | exact ⟨rfl, _, World.drewN_drewN _ _ _⟩ | exact ⟨rfl, _, Eq.trans (World.drewN_drewN _ _ _) (congrArg (World.drewN _) (Nat.add_assoc _ _ _))⟩)) | (go_at_call 78; (with_reducible refine (spec_l1Min.calls (t278.size : Int) (wrap64 (a1 + (a2.size : Int))) t279 _ A8.out).mono ?_); rintro e w' ⟨rfl, ⟨nd, rfl⟩⟩; (try first | exact ⟨rfl, _, World.drewN_drewN _ _ _⟩ | exact ⟨rfl, _, Eq.trans (World.drewN_drewN _ _ _) (congrArg (World.drewN _) (Nat.add_assoc _ _ _))⟩))); try go_wp2_with (first | (go_at_call 80; (with_reducible refine (spec_l2Long.calls k a0 a1 t278 _ A4.out).mono ?_); rintro e w' ⟨rfl, ⟨nd, rfl⟩⟩; (try first | exact ⟨rfl, _, World.drewN_drewN _ _ _⟩ | exact ⟨rfl, _, Eq.trans (World.drewN_drewN _ _ _) (congrArg (World.drewN _) (Nat.add_assoc _ _ _))⟩)) | (go_at_call 78; (with_reducible refine (spec_l1Min.calls (t278.size : Int) (wrap64 (a1 + (a2.size : Int))) t279 _ A8.out).mono ?_); rintro e w' ⟨rfl, ⟨nd, rfl⟩⟩; (try first | exact ⟨rfl, _, World.drewN_drewN _ _ _⟩ | exact ⟨rfl, _, Eq.trans (World.drewN_drewN _ _ _) (congrArg (World.drewN _) (Nat.add_assoc _ _ _))⟩))))
       go_ret
       exact ⟨by first | rfl | (simp; done) | (simp [*]; done), by repeat (first | exact Drawn0.refl _ | apply Drawn0.step)⟩
      ·rw [if_neg c11] at H
       exact absurd H (by simp)
     ·rw [if_neg c10] at H
      exact absurd H (by simp)
    ·rw [if_neg c9] at H
     exact absurd H (by simp)
   ·rw [if_neg c7] at H
    exact absurd H (by simp)
  ·rw [if_neg c6] at H
   exact absurd H (by simp)
 ·rw [if_neg c5] at H
  exact absurd H (by simp)
end Go.Proofs.Ytmekkapacbdbeaa.P
namespace Go.Proofs.Ytmekkapacbdbeaa.Sh
open Go.Shelf Go.RowKit Go.Lib
def rep_ren : Go.Shelf.Ren := ⟨fun | 105 => 79 | 212 => 82 | 99 => 83 | 165 => 84 | 166 => 85 | 170 => 86 | 169 => 87 | 263 => 88 | 264 => 89 | 206 => 90 | 240 => 91 | 241 => 92 | 276 => 93 | 277 => 94 | n => n, fun | 9 => 9 | 3 => 3 | 4 => 4 | 20 => 20 | 0 => 0 | 46 => 87 | 109 => 88 | 5 => 5 | 72 => 93 | 76 => 97 | 51 => 101 | 146 => 102 | 53 => 104 | 148 => 105 | 70 => 91 | 37 => 22 | 75 => 96 | 127 => 107 | 164 => 108 | 80 => 100 | n => n, fun | n => n⟩
theorem rep_lays : Go.Proofs.Lays.n105 Try.prog rep_ren := {
 mixed := by kernel_rfl
 f99 := Try.func83.trans (congrArg some (by kernel_rfl))
 f105 := Try.func79.trans (congrArg some (by kernel_rfl))
 f165 := Try.func84.trans (congrArg some (by kernel_rfl))
 f166 := Try.func85.trans (congrArg some (by kernel_rfl))
 f169 := Try.func87.trans (congrArg some (by kernel_rfl))
 f170 := Try.func86.trans (congrArg some (by kernel_rfl))
 f206 := Try.func90.trans (congrArg some (by kernel_rfl))
 f212 := Try.func82.trans (congrArg some (by kernel_rfl))
 f240 := Try.func91.trans (congrArg some (by kernel_rfl))
 f241 := Try.func92.trans (congrArg some (by kernel_rfl))
 f263 := Try.func88.trans (congrArg some (by kernel_rfl))
 f264 := Try.func89.trans (congrArg some (by kernel_rfl))
 f276 := Try.func93.trans (congrArg some (by kernel_rfl))
 f277 := Try.func94.trans (congrArg some (by kernel_rfl))
 t0 := Try.underlying0
 a0 := Try.isAgg0
 z0 := Try.sizeOf0
 v0 := Try.zeroValue0
 t3 := Try.underlying3
 a3 := Try.isAgg3
 z3 := Try.sizeOf3
 v3 := Try.zeroValue3
 t4 := Try.underlying4
 a4 := Try.isAgg4
 z4 := Try.sizeOf4
 v4 := Try.zeroValue4
 t5 := Try.underlying5
 a5 := Try.isAgg5
 z5 := Try.sizeOf5
 v5 := Try.zeroValue5
 t9 := Try.underlying9
 a9 := Try.isAgg9
 z9 := Try.sizeOf9
 v9 := Try.zeroValue9
 t20 := Try.underlying20
 a20 := Try.isAgg20
 z20 := Try.sizeOf20
 v20 := Try.zeroValue20
 t37 := Try.underlying22
 a37 := Try.isAgg22
 z37 := Try.sizeOf22
 v37 := Try.zeroValue22
 t46 := Try.underlying87
 a46 := Try.isAgg87
 z46 := Try.sizeOf87
 v46 := Try.zeroValue87
 t51 := Try.underlying101
 a51 := Try.isAgg101
 z51 := Try.sizeOf101
 v51 := Try.zeroValue101
 t53 := Try.underlying104
 a53 := Try.isAgg104
 z53 := Try.sizeOf104
 v53 := Try.zeroValue104
 t70 := Try.underlying91
 a70 := Try.isAgg91
 z70 := Try.sizeOf91
 v70 := Try.zeroValue91
 t72 := Try.underlying93
 a72 := Try.isAgg93
 z72 := Try.sizeOf93
 v72 := Try.zeroValue93
 t75 := Try.underlying96
 a75 := Try.isAgg96
 z75 := Try.sizeOf96
 v75 := Try.zeroValue96
 t76 := Try.underlying97
 a76 := Try.isAgg97
 z76 := Try.sizeOf97
 v76 := Try.zeroValue97
 t109 := Try.underlying88
 a109 := Try.isAgg88
 z109 := Try.sizeOf88
 v109 := Try.zeroValue88
 t127 := Try.underlying107
 a127 := Try.isAgg107
 z127 := Try.sizeOf107
 v127 := Try.zeroValue107
 t146 := Try.underlying102
 a146 := Try.isAgg102
 z146 := Try.sizeOf102
 v146 := Try.zeroValue102
 t148 := Try.underlying105
 a148 := Try.isAgg105
 z148 := Try.sizeOf105
 v148 := Try.zeroValue105
 t164 := Try.underlying108
 a164 := Try.isAgg108
 z164 := Try.sizeOf108
 v164 := Try.zeroValue108 }
theorem rep_extra : Builder.Extra Try.prog rep_ren := {
 sizeBuilder := by kernel_rfl
 liesBuilder := by kernel_rfl
 t5 := Try.underlying5
 a5 := Try.isAgg5
 z5 := Try.sizeOf5
 v5 := Try.zeroValue5
 infoByte := by kernel_rfl
 cellsByte := by kernel_rfl
 sizeByte := by kernel_rfl
 neB5 := by decide }
theorem strings_Repeat (s : ByteArray) (c : Nat) (w : World) (hc : c ≤ 9223372036854775807) (hlen : s.size * c ≤ 140737488355328) :
  Calls Try.prog 79 #[.string s, .int .i64 c] w fun e w' => e = .returned (.string ⟨(Lib.repeatL s.data.toList c).toArray⟩) ∧ Below w.heap.size w w' := Any.strings_Repeat rep_lays rep_extra s c w hc hlen
end Go.Proofs.Ytmekkapacbdbeaa.Sh
namespace Go.Proofs.Ytmekkapacbdbeaa.P
open Go.RowKit Go.Proofs.YtmekkapacbdbeaaW.PrintWords Go.Proofs.YtmekkapacbdbeaaW.PrintLast Go.Proofs.YtmekkapacbdbeaaW.PrintMore
set_option linter.unusedVariables false
set_option linter.unusedSimpArgs false
def dots (n : Nat) : ByteArray := ⟨(List.replicate n (46 : UInt8)).toArray⟩
theorem repeatL_dot : ∀ n, Lib.repeatL [(46 : UInt8)] n = List.replicate n 46
 | 0 => rfl
 | n + 1 => by
  have h := repeatL_dot n
  simp only [Lib.repeatL, List.replicate_succ] at h ⊢
  simp [h]
def impl_sized.f (a0 : ByteArray) (a1 : Int) : Option (ByteArray) := if a1 ≤ (a0.size : Int) then (if 0 ≤ a1 then some (a0.extract 0 a1.toNat) else none) else (if a1 ≤ 4096 then some (a0 ++ dots (a1.toNat - a0.size)) else none)
set_option maxHeartbeats 1000000 in
set_option maxRecDepth 100000 in
theorem impl_sized.calls (a0 : ByteArray) (a1 : Int) (r : ByteArray) (w : World) (h : impl_sized.f a0 a1 = some r) :
  Calls Try.prog 69 #[.string a0, .int .i64 a1] w fun e w' => e = .returned (.string r) ∧ Below w.heap.size w w' := by
 unfold impl_sized.f at h
 by_cases c1 : a1 ≤ (a0.size : Int)
 ·rw [if_pos c1] at h
  by_cases c2 : 0 ≤ a1
  ·rw [if_pos c2] at h
   obtain rfl := Option.some.inj h
   clear h
   obtain ⟨n, rfl⟩ := Int.eq_ofNat_of_zero_le c2
   have c3 : n ≤ a0.size := by omega
   have c4 : decide ((n : Int) ≤ (a0.size : Int)) = true := decide_eq_true c1
   have c5 : decide (n ≤ a0.size) = true := decide_eq_true c3
   clear c1
   go_enter Try.func69, Try.ntmps69
   go_wp2
   go_ret
   exact ⟨by simp, Below.refl _ _⟩
  ·rw [if_neg c2] at h
   cases h
 ·rw [if_neg c1] at h
  by_cases c2 : a1 ≤ 4096
  ·rw [if_pos c2] at h
   obtain rfl := Option.some.inj h
   clear h
   obtain ⟨n, rfl⟩ : ∃ n : Nat, a1 = (a0.size : Int) + (n : Int) := ⟨(a1 - a0.size).toNat, by omega⟩
   have c4 : decide ((a0.size : Int) + (n : Int) ≤ (a0.size : Int)) = false := decide_eq_false c1
   have hn : 0 < n := by omega
   have hb : a0.size + n ≤ 4096 := by omega
   have hw : wrap64 ((a0.size : Int) + (n : Int) - (a0.size : Int)) = (n : Int) := by unfold wrap64; omega
   have e1 : ((a0.size : Int) + (n : Int)).toNat - a0.size = n := by omega
   rw [e1]
   clear e1 c1 c2
   go_enter Try.func69, Try.ntmps69
   go_wp2_with fail
   rw [show ((a0.size : Int) + (n : Int) - (a0.size : Int)) = (n : Int) from by omega]
   refine (Sh.strings_Repeat _ n _ (by omega) (by simp [ByteArray.size]; omega)).mono ?_
   rintro e w1 ⟨rfl, hb1⟩
   have hd : (⟨(Lib.repeatL (⟨#[46]⟩ : ByteArray).data.toList n).toArray⟩ : ByteArray) = dots n := by unfold dots; rw [show (⟨#[46]⟩ : ByteArray).data.toList = [(46 : UInt8)] from rfl, repeatL_dot]
   rw [hd]
   have hs : (dots n).size = n := by simp [dots, ByteArray.size]
   have hm : a0.size + (dots n).size ≤ 9223372036854775807 := by rw [hs]; omega
   have HB := Ak hb1
   clear hb1 hd hs
   go_wp2
   go_ret
   exact ⟨by simp, HB.out⟩
  ·rw [if_neg c2] at h
   cases h
end Go.Proofs.Ytmekkapacbdbeaa.P
namespace Go.Proofs.Ytmekkapacbdbeaa.P
open Go.RowKit Go.Proofs.YtmekkapacbdbeaaW.PrintWords Go.Proofs.YtmekkapacbdbeaaW.PrintLast Go.Proofs.YtmekkapacbdbeaaW.PrintMore
attribute [local go_sem] max2_int min2_int max_two min_two max_three min_three max_four min_four   
set_option linter.unusedVariables false
set_option linter.unusedSimpArgs false
theorem tw_world_at {Q : World → Prop} {w W0 : World} (hb : Below w.heap.size w W0) (h : ∀ W, Below w.heap.size w W → Q W) : Q W0 := h W0 hb
def impl_TextWrite.f (k : Nat) (a0 : ByteArray) (a1 : Int) (a2 : ByteArray) : Option (ByteArray × Bool) := (impl_TextOk.f k a0).bind fun t607 => (if t607 = true then (if a1 < 0 then (some (a0, false)) else (if a1 > 48 then (some (a0, false)) else (if a2.toList = ([] : List UInt8) then (some (a0, false)) else ((impl_TextOk.f k a2).bind fun t608 => (if t608 = true then (if (wrap64 (a1 + (a2.size : Int))) > 48 then (some (a0, false)) else ((impl_sized.f a0 (mx (a0.size : Int) (wrap64 (a1 + (a2.size : Int))))).bind fun t609 => (if 0 ≤ a1 then (if a1 ≤ (t609.size : Int) then (if (t609.extract 0 (a1 : Int).toNat).size + a2.size ≤ 9223372036854775807 then (if 0 ≤ (mn (wrap64 (a1 + (a2.size : Int))) (a0.size : Int)) then (if (mn (wrap64 (a1 + (a2.size : Int))) (a0.size : Int)) ≤ (a0.size : Int) then (if ((t609.extract 0 (a1 : Int).toNat) ++ a2).size + (a0.extract ((mn (wrap64 (a1 + (a2.size : Int))) (a0.size : Int)) : Int).toNat a0.size).size ≤ 9223372036854775807 then (some (((t609.extract 0 (a1 : Int).toNat) ++ a2) ++ (a0.extract ((mn (wrap64 (a1 + (a2.size : Int))) (a0.size : Int)) : Int).toNat a0.size), true)) else (none)) else (none)) else (none)) else (none)) else (none)) else (none)))) else (some (a0, false))))))) else (some ((⟨#[]⟩ : ByteArray), false)))
def impl_TextWrite.T6 : Bool × List (List Nat × List Nat) := (true, [([], []), ([], []), ([1], [1]), ([], []), ([2, 3], [2, 3]), ([0, 4], [0, 4]), ([], []), ([5, 6], [5, 6]), ([], []), ([7, 8], [7, 8]), ([], []), ([], []), ([], []), ([12], [12]), ([11, 13], [11, 13]), ([10, 14], [10, 14]), ([9, 15], [9, 15]), ([16, 5, 0, 1, 2, 3, 4, 5, 6, 7, 8, 9, 10, 11, 12, 13, 14, 15, 16], [16]), ([17, 0, 1, 2, 3, 4, 5, 6, 7, 8, 9, 10, 11, 12, 13, 14, 15, 16, 17], [])])
def impl_TextWrite.B6 : List Nat := [0, 0, 2, 0, 14, 31, 0, 127, 0, 511, 0, 0, 0, 4096, 14336, 31744, 65535, 131071, 262143]
theorem impl_TextWrite.tab6 : rtab .any (opsOf Try.f41 6) = impl_TextWrite.T6 := by kernel_rfl
theorem impl_TextWrite.bits6 : waitsOk impl_TextWrite.T6.2 impl_TextWrite.B6 = true := by kernel_rfl
set_option maxHeartbeats 8000000 in
set_option maxRecDepth 100000 in
theorem impl_TextWrite.calls (k : Nat) (a0 : ByteArray) (a1 : Int) (a2 : ByteArray) (r1 : ByteArray) (r2 : Bool) (w : World) (h : impl_TextWrite.f k a0 a1 a2 = some (r1, r2)) :
  Calls Try.prog 41 #[.string a0, .int .i64 a1, .string a2] w fun e w' => e = .returned (.tuple #[.string r1, .bool r2]) ∧ Below w.heap.size w w' := by
 have HB := Ak (Below.refl w.heap.size w)
 have H : ((impl_TextOk.f k a0).bind fun t607 => (if t607 = true then (if a1 < 0 then (some (a0, false)) else (if a1 > 48 then (some (a0, false)) else (if a2.toList = ([] : List UInt8) then (some (a0, false)) else ((impl_TextOk.f k a2).bind fun t608 => (if t608 = true then (if (wrap64 (a1 + (a2.size : Int))) > 48 then (some (a0, false)) else ((impl_sized.f a0 (mx (a0.size : Int) (wrap64 (a1 + (a2.size : Int))))).bind fun t609 => (if 0 ≤ a1 then (if a1 ≤ (t609.size : Int) then (if (t609.extract 0 (a1 : Int).toNat).size + a2.size ≤ 9223372036854775807 then (if 0 ≤ (mn (wrap64 (a1 + (a2.size : Int))) (a0.size : Int)) then (if (mn (wrap64 (a1 + (a2.size : Int))) (a0.size : Int)) ≤ (a0.size : Int) then (if ((t609.extract 0 (a1 : Int).toNat) ++ a2).size + (a0.extract ((mn (wrap64 (a1 + (a2.size : Int))) (a0.size : Int)) : Int).toNat a0.size).size ≤ 9223372036854775807 then (some (((t609.extract 0 (a1 : Int).toNat) ++ a2) ++ (a0.extract ((mn (wrap64 (a1 + (a2.size : Int))) (a0.size : Int)) : Int).toNat a0.size), true)) else (none)) else (none)) else (none)) else (none)) else (none)) else (none)))) else (some (a0, false))))))) else (some ((⟨#[]⟩ : ByteArray), false)))) = some (r1, r2) := h
 clear h
 replace H := Option.bind_eq_some_iff.mp H
 obtain ⟨t607, A40, H⟩ := H
 replace H : (if t607 = true then (if a1 < 0 then (some (a0, false)) else (if a1 > 48 then (some (a0, false)) else (if a2.toList = ([] : List UInt8) then (some (a0, false)) else ((impl_TextOk.f k a2).bind fun t608 => (if t608 = true then (if (wrap64 (a1 + (a2.size : Int))) > 48 then (some (a0, false)) else ((impl_sized.f a0 (mx (a0.size : Int) (wrap64 (a1 + (a2.size : Int))))).bind fun t609 => (if 0 ≤ a1 then (if a1 ≤ (t609.size : Int) then (if (t609.extract 0 (a1 : Int).toNat).size + a2.size ≤ 9223372036854775807 then (if 0 ≤ (mn (wrap64 (a1 + (a2.size : Int))) (a0.size : Int)) then (if (mn (wrap64 (a1 + (a2.size : Int))) (a0.size : Int)) ≤ (a0.size : Int) then (if ((t609.extract 0 (a1 : Int).toNat) ++ a2).size + (a0.extract ((mn (wrap64 (a1 + (a2.size : Int))) (a0.size : Int)) : Int).toNat a0.size).size ≤ 9223372036854775807 then (some (((t609.extract 0 (a1 : Int).toNat) ++ a2) ++ (a0.extract ((mn (wrap64 (a1 + (a2.size : Int))) (a0.size : Int)) : Int).toNat a0.size), true)) else (none)) else (none)) else (none)) else (none)) else (none)) else (none)))) else (some (a0, false))))))) else (some ((⟨#[]⟩ : ByteArray), false))) = some (r1, r2) := H
 have A4 := Ak A40
 clear A40
 by_cases c5 : t607 = true
 ·subst c5
  have H1 : (if a1 < 0 then (some (a0, false)) else (if a1 > 48 then (some (a0, false)) else (if a2.toList = ([] : List UInt8) then (some (a0, false)) else ((impl_TextOk.f k a2).bind fun t608 => (if t608 = true then (if (wrap64 (a1 + (a2.size : Int))) > 48 then (some (a0, false)) else ((impl_sized.f a0 (mx (a0.size : Int) (wrap64 (a1 + (a2.size : Int))))).bind fun t609 => (if 0 ≤ a1 then (if a1 ≤ (t609.size : Int) then (if (t609.extract 0 (a1 : Int).toNat).size + a2.size ≤ 9223372036854775807 then (if 0 ≤ (mn (wrap64 (a1 + (a2.size : Int))) (a0.size : Int)) then (if (mn (wrap64 (a1 + (a2.size : Int))) (a0.size : Int)) ≤ (a0.size : Int) then (if ((t609.extract 0 (a1 : Int).toNat) ++ a2).size + (a0.extract ((mn (wrap64 (a1 + (a2.size : Int))) (a0.size : Int)) : Int).toNat a0.size).size ≤ 9223372036854775807 then (some (((t609.extract 0 (a1 : Int).toNat) ++ a2) ++ (a0.extract ((mn (wrap64 (a1 + (a2.size : Int))) (a0.size : Int)) : Int).toNat a0.size), true)) else (none)) else (none)) else (none)) else (none)) else (none)) else (none)))) else (some (a0, false))))))) = some (r1, r2) := by rw [if_pos rfl] at H; exact H
  clear H
  have H := H1
  clear H1
  by_cases c6 : a1 < 0
  ·rw [if_pos c6] at H
   have c6b0 : decide (a1 < 0) = true := decide_eq_true c6
   clear c6
   simp only [Option.some.injEq, Prod.mk.injEq] at H
   obtain ⟨rfl, rfl⟩ := H
   go_enter Try.func41, Try.ntmps41
   go_wp2_with (first | ((with_reducible refine gate_callee (f := 57) rfl ?_); refine goesL_ (some 10) rfl rfl Try.func57 (by kernel_rfl) rfl #[.string a0] rfl (by (try simp only [List.map_toArray, List.map_cons, List.map_nil]); first | done | rfl | (simp only [List.length_drop, List.length_take]; rfl)) ?_; (with_reducible refine (impl_TextOk.calls k a0 true _ A4.out).mono ?_); rintro e w' ⟨rfl, ⟨nd, rfl⟩⟩; refine ⟨_, rfl, ?_⟩))
   go_ret2
   exact ⟨by first | rfl | (simp [errW_none, errW_some] <;> rfl) | (simp [*, errW_none, errW_some] <;> rfl), by repeat (first | (with_reducible first | exact HB.out | apply below_alloc | apply pw_below_drewN | apply below_drew1) | exact HB.out)⟩
  ·rw [if_neg c6] at H
   have c6b0 : decide (a1 < 0) = false := decide_eq_false c6
   clear c6
   by_cases c7 : a1 > 48
   ·rw [if_pos c7] at H
    have c7b0 : decide (48 < a1) = true := decide_eq_true c7
    clear c7
    simp only [Option.some.injEq, Prod.mk.injEq] at H
    obtain ⟨rfl, rfl⟩ := H
    go_enter Try.func41, Try.ntmps41
    go_wp2_with (first | ((with_reducible refine gate_callee (f := 57) rfl ?_); refine goesL_ (some 10) rfl rfl Try.func57 (by kernel_rfl) rfl #[.string a0] rfl (by (try simp only [List.map_toArray, List.map_cons, List.map_nil]); first | done | rfl | (simp only [List.length_drop, List.length_take]; rfl)) ?_; (with_reducible refine (impl_TextOk.calls k a0 true _ A4.out).mono ?_); rintro e w' ⟨rfl, ⟨nd, rfl⟩⟩; refine ⟨_, rfl, ?_⟩))
    go_ret2
    exact ⟨by first | rfl | (simp [errW_none, errW_some] <;> rfl) | (simp [*, errW_none, errW_some] <;> rfl), by repeat (first | (with_reducible first | exact HB.out | apply below_alloc | apply pw_below_drewN | apply below_drew1) | exact HB.out)⟩
   ·rw [if_neg c7] at H
    have c7b0 : decide (48 < a1) = false := decide_eq_false c7
    clear c7
    by_cases c8 : a2.toList = ([] : List UInt8)
    ·rw [if_pos c8] at H
     have c8b0 : (a2.toList == ([] : List UInt8)) = true := beq_iff_eq.mpr c8
     have c8b1 : (a2.toList != ([] : List UInt8)) = false := bne_eq_false_iff_eq.mpr c8
     clear c8
     simp only [Option.some.injEq, Prod.mk.injEq] at H
     obtain ⟨rfl, rfl⟩ := H
     go_enter Try.func41, Try.ntmps41
     go_wp2_with (first | ((with_reducible refine gate_callee (f := 57) rfl ?_); refine goesL_ (some 10) rfl rfl Try.func57 (by kernel_rfl) rfl #[.string a0] rfl (by (try simp only [List.map_toArray, List.map_cons, List.map_nil]); first | done | rfl | (simp only [List.length_drop, List.length_take]; rfl)) ?_; (with_reducible refine (impl_TextOk.calls k a0 true _ A4.out).mono ?_); rintro e w' ⟨rfl, ⟨nd, rfl⟩⟩; refine ⟨_, rfl, ?_⟩))
     go_ret2
     exact ⟨by first | rfl | (simp [errW_none, errW_some] <;> rfl) | (simp [*, errW_none, errW_some] <;> rfl), by repeat (first | (with_reducible first | exact HB.out | apply below_alloc | apply pw_below_drewN | apply below_drew1) | exact HB.out)⟩
    ·rw [if_neg c8] at H
     have c8b0 : (a2.toList == ([] : List UInt8)) = false := beq_eq_false_iff_ne.mpr c8
     have c8b1 : (a2.toList != ([] : List UInt8)) = true := bne_iff_ne.mpr c8
     replace H := Option.bind_eq_some_iff.mp H
     obtain ⟨t608, A90, H⟩ := H
     replace H : (if t608 = true then (if (wrap64 (a1 + (a2.size : Int))) > 48 then (some (a0, false)) else ((impl_sized.f a0 (mx (a0.size : Int) (wrap64 (a1 + (a2.size : Int))))).bind fun t609 => (if 0 ≤ a1 then (if a1 ≤ (t609.size : Int) then (if (t609.extract 0 (a1 : Int).toNat).size + a2.size ≤ 9223372036854775807 then (if 0 ≤ (mn (wrap64 (a1 + (a2.size : Int))) (a0.size : Int)) then (if (mn (wrap64 (a1 + (a2.size : Int))) (a0.size : Int)) ≤ (a0.size : Int) then (if ((t609.extract 0 (a1 : Int).toNat) ++ a2).size + (a0.extract ((mn (wrap64 (a1 + (a2.size : Int))) (a0.size : Int)) : Int).toNat a0.size).size ≤ 9223372036854775807 then (some (((t609.extract 0 (a1 : Int).toNat) ++ a2) ++ (a0.extract ((mn (wrap64 (a1 + (a2.size : Int))) (a0.size : Int)) : Int).toNat a0.size), true)) else (none)) else (none)) else (none)) else (none)) else (none)) else (none)))) else (some (a0, false))) = some (r1, r2) := H
     have A9 := Ak A90
     clear A90
     by_cases c10 : t608 = true
     ·subst c10
      have H1 : (if (wrap64 (a1 + (a2.size : Int))) > 48 then (some (a0, false)) else ((impl_sized.f a0 (mx (a0.size : Int) (wrap64 (a1 + (a2.size : Int))))).bind fun t609 => (if 0 ≤ a1 then (if a1 ≤ (t609.size : Int) then (if (t609.extract 0 (a1 : Int).toNat).size + a2.size ≤ 9223372036854775807 then (if 0 ≤ (mn (wrap64 (a1 + (a2.size : Int))) (a0.size : Int)) then (if (mn (wrap64 (a1 + (a2.size : Int))) (a0.size : Int)) ≤ (a0.size : Int) then (if ((t609.extract 0 (a1 : Int).toNat) ++ a2).size + (a0.extract ((mn (wrap64 (a1 + (a2.size : Int))) (a0.size : Int)) : Int).toNat a0.size).size ≤ 9223372036854775807 then (some (((t609.extract 0 (a1 : Int).toNat) ++ a2) ++ (a0.extract ((mn (wrap64 (a1 + (a2.size : Int))) (a0.size : Int)) : Int).toNat a0.size), true)) else (none)) else (none)) else (none)) else (none)) else (none)) else (none)))) = some (r1, r2) := by rw [if_pos rfl] at H; exact H
      clear H
      have H := H1
      clear H1
      by_cases c11 : (wrap64 (a1 + (a2.size : Int))) > 48
      ·rw [if_pos c11] at H
       have c11b0 : decide (48 < (wrap64 (a1 + (a2.size : Int)))) = true := decide_eq_true c11
       clear c11
       simp only [Option.some.injEq, Prod.mk.injEq] at H
       obtain ⟨rfl, rfl⟩ := H
       go_enter Try.func41, Try.ntmps41
       go_wp2_with (first | ((with_reducible refine gate_callee (f := 57) rfl ?_); refine goesL_ (some 10) rfl rfl Try.func57 (by kernel_rfl) rfl #[.string a0] rfl (by (try simp only [List.map_toArray, List.map_cons, List.map_nil]); first | done | rfl | (simp only [List.length_drop, List.length_take]; rfl)) ?_; (with_reducible refine (impl_TextOk.calls k a0 true _ A4.out).mono ?_); rintro e w' ⟨rfl, ⟨nd, rfl⟩⟩; refine ⟨_, rfl, ?_⟩) | (go_at_call 57; (with_reducible refine (impl_TextOk.calls k a2 true _ A9.out).mono ?_); rintro e w' ⟨rfl, ⟨nd, rfl⟩⟩))
       go_ret2
       exact ⟨by first | rfl | (simp [errW_none, errW_some] <;> rfl) | (simp [*, errW_none, errW_some] <;> rfl), by repeat (first | (with_reducible first | exact HB.out | apply below_alloc | apply pw_below_drewN | apply below_drew1) | exact HB.out)⟩
      ·rw [if_neg c11] at H
       have c11b0 : decide (48 < (wrap64 (a1 + (a2.size : Int)))) = false := decide_eq_false c11
       clear c11
       obtain ⟨ji12, hji12⟩ : ∃ j_ : Int, (mx (a0.size : Int) (wrap64 (a1 + (a2.size : Int)))) = j_ := ⟨_, rfl⟩
       replace H : ((impl_sized.f a0 (ji12)).bind fun t609 => (if 0 ≤ a1 then (if a1 ≤ (t609.size : Int) then (if (t609.extract 0 (a1 : Int).toNat).size + a2.size ≤ 9223372036854775807 then (if 0 ≤ (mn (wrap64 (a1 + (a2.size : Int))) (a0.size : Int)) then (if (mn (wrap64 (a1 + (a2.size : Int))) (a0.size : Int)) ≤ (a0.size : Int) then (if ((t609.extract 0 (a1 : Int).toNat) ++ a2).size + (a0.extract ((mn (wrap64 (a1 + (a2.size : Int))) (a0.size : Int)) : Int).toNat a0.size).size ≤ 9223372036854775807 then (some (((t609.extract 0 (a1 : Int).toNat) ++ a2) ++ (a0.extract ((mn (wrap64 (a1 + (a2.size : Int))) (a0.size : Int)) : Int).toNat a0.size), true)) else (none)) else (none)) else (none)) else (none)) else (none)) else (none))) = some (r1, r2) := by first | (rw [hji12] at H; exact H) | (simp only [hji12] at H ⊢; exact H)
       (try rw [hji12] at A4)
       (try rw [hji12] at A9)
       (try (have hji12l : 0 ≤ ji12 := by (rw [← hji12]; unfold mx; (repeat' split) <;> omega)))
       (try (have hji12m : 0 ≤ ji12 := by omega))
       have hji12_ : (if (a0.size : Int) < (wrap64 (a1 + (a2.size : Int))) then (wrap64 (a1 + (a2.size : Int))) else (a0.size : Int)) = ji12 := hji12
       replace H := Option.bind_eq_some_iff.mp H
       obtain ⟨t609, A130, H⟩ := H
       replace H : (if 0 ≤ a1 then (if a1 ≤ (t609.size : Int) then (if (t609.extract 0 (a1 : Int).toNat).size + a2.size ≤ 9223372036854775807 then (if 0 ≤ (mn (wrap64 (a1 + (a2.size : Int))) (a0.size : Int)) then (if (mn (wrap64 (a1 + (a2.size : Int))) (a0.size : Int)) ≤ (a0.size : Int) then (if ((t609.extract 0 (a1 : Int).toNat) ++ a2).size + (a0.extract ((mn (wrap64 (a1 + (a2.size : Int))) (a0.size : Int)) : Int).toNat a0.size).size ≤ 9223372036854775807 then (some (((t609.extract 0 (a1 : Int).toNat) ++ a2) ++ (a0.extract ((mn (wrap64 (a1 + (a2.size : Int))) (a0.size : Int)) : Int).toNat a0.size), true)) else (none)) else (none)) else (none)) else (none)) else (none)) else (none)) = some (r1, r2) := H
       have A13 := Ak A130
       clear A130
       by_cases c14 : 0 ≤ a1
       ·rw [if_pos c14] at H
        have c14b0 := eq_true c14
        have c14b1 : decide (0 ≤ a1) = true := decide_eq_true c14
        clear c14
        by_cases c15 : a1 ≤ (t609.size : Int)
        ·rw [if_pos c15] at H
         have c15b0 := eq_true c15
         have c15b1 : decide (a1 ≤ (t609.size : Int)) = true := decide_eq_true c15
         clear c15
         by_cases c16 : (t609.extract 0 (a1 : Int).toNat).size + a2.size ≤ 9223372036854775807
         ·rw [if_pos c16] at H
          have c16b0 := eq_true c16
          have c16b1 : decide ((t609.extract 0 (a1 : Int).toNat).size + a2.size ≤ 9223372036854775807) = true := decide_eq_true c16
          try have c16b2 : (9223372036854775807 < (t609.extract 0 (a1 : Int).toNat).size + a2.size) = False := eq_false (Nat.not_lt.2 c16)
          obtain ⟨ji17, hji17⟩ : ∃ j_ : Int, (mn (wrap64 (a1 + (a2.size : Int))) (a0.size : Int)) = j_ := ⟨_, rfl⟩
          replace H : (if 0 ≤ (ji17) then (if (ji17) ≤ (a0.size : Int) then (if ((t609.extract 0 (a1 : Int).toNat) ++ a2).size + (a0.extract ((ji17) : Int).toNat a0.size).size ≤ 9223372036854775807 then (some (((t609.extract 0 (a1 : Int).toNat) ++ a2) ++ (a0.extract ((ji17) : Int).toNat a0.size), true)) else (none)) else (none)) else (none)) = some (r1, r2) := by first | (rw [hji17] at H; exact H) | (simp only [hji17] at H ⊢; exact H)
          (try rw [hji17] at A4)
          (try rw [hji17] at A9)
          (try rw [hji17] at A13)
          have hji17_ : (if (a0.size : Int) < (wrap64 (a1 + (a2.size : Int))) then (a0.size : Int) else (wrap64 (a1 + (a2.size : Int)))) = ji17 := hji17
          by_cases c18 : 0 ≤ (ji17)
          ·rw [if_pos c18] at H
           have c18b0 := eq_true c18
           have c18b1 : decide (0 ≤ (ji17)) = true := decide_eq_true c18
           clear c18
           by_cases c19 : (ji17) ≤ (a0.size : Int)
           ·rw [if_pos c19] at H
            have c19b0 := eq_true c19
            have c19b1 : decide ((ji17) ≤ (a0.size : Int)) = true := decide_eq_true c19
            clear c19
            by_cases c20 : ((t609.extract 0 (a1 : Int).toNat) ++ a2).size + (a0.extract ((ji17) : Int).toNat a0.size).size ≤ 9223372036854775807
            ·rw [if_pos c20] at H
             have c20b0 := eq_true c20
             have c20b1 : decide (((t609.extract 0 (a1 : Int).toNat) ++ a2).size + (a0.extract ((ji17) : Int).toNat a0.size).size ≤ 9223372036854775807) = true := decide_eq_true c20
             try have c20b2 : (9223372036854775807 < ((t609.extract 0 (a1 : Int).toNat) ++ a2).size + (a0.extract ((ji17) : Int).toNat a0.size).size) = False := eq_false (Nat.not_lt.2 c20)
             simp only [Option.some.injEq, Prod.mk.injEq] at H
             obtain ⟨rfl, rfl⟩ := H
             go_enter Try.func41, Try.ntmps41
             try go_wp2_with (first | ((with_reducible refine gate_callee (f := 57) rfl ?_); refine goesL_ (some 10) rfl rfl Try.func57 (by kernel_rfl) rfl #[.string a0] rfl (by (try simp only [List.map_toArray, List.map_cons, List.map_nil]); first | done | rfl | (simp only [List.length_drop, List.length_take]; rfl)) ?_; (with_reducible refine (impl_TextOk.calls k a0 true _ A4.out).mono ?_); rintro e w' ⟨rfl, ⟨nd, rfl⟩⟩; refine ⟨_, rfl, ?_⟩) | (go_at_call 57; (with_reducible refine (impl_TextOk.calls k a2 true _ A9.out).mono ?_); rintro e w' ⟨rfl, ⟨nd, rfl⟩⟩))
             have hz1 : (9223372036854775807 < a1.toNat + a2.size) = False := eq_false (by have h1 := c16; have h2 := of_eq_true c15b0; rw [ByteArray.size_extract] at h1; omega)
             have hz2 : (9223372036854775807 < a1.toNat + a2.size + (a0.size - ji17.toNat)) = False := eq_false (by have h1 := c20; have h2 := of_eq_true c15b0; have h3 := of_eq_true c19b0; rw [ByteArray.size_append, ByteArray.size_extract, ByteArray.size_extract] at h1; omega)
             refine start_ (n := 19) (S := fun w' => True) (ds := []) #[false, false, false, false, false, false, false, false, false, false, false, false, false, false, false, false, false, false, false] (by kernel_rfl) rfl rfl trivial (fun hHeld => ?_); refine with_tabW impl_TextWrite.tab6 impl_TextWrite.bits6 (fun HT_ HW_ => ?_)
             refine tw_world_at (w := w) (by repeat (first | (with_reducible first | exact HB.out | apply below_alloc | apply pw_below_drewN | apply below_drew1) | exact HB.out)) (fun w21 HBn_ => ?_)
             clear HB hHeld
             have hHeld : True := trivial
             have HB := Ak HBn_
             clear HBn_
             refine pure_ (i := 0) (N := some 39) (v := ?_) (a' := ?_) #[T0, F0, F0, F0, F0, F0, F0, F0, F0, F0, F0, F0, F0, F0, F0, F0, F0, F0, F0] rfl rfl (any_of HT_.out (by kernel_rfl)) (fun _ _ _ h => h) (Or.inl ⟨by rfl, ?_⟩) ?_ ?_
             rotate_left
             ·intro w'
              go_simp
              with_reducible rfl
             rotate_left
             ·simp only [Act.put, zzA, zzB, zzC, i64_w, i32_w]
              rfl
             refine pure_ (i := 1) (N := some 40) (v := ?_) (a' := ?_) #[T0, T0, F0, F0, F0, F0, F0, F0, F0, F0, F0, F0, F0, F0, F0, F0, F0, F0, F0] rfl rfl (any_of HT_.out (by kernel_rfl)) (fun _ _ _ h => h) (Or.inl ⟨by rfl, ?_⟩) ?_ ?_
             rotate_left
             ·intro w'
              go_simp
              with_reducible rfl
             rotate_left
             ·simp only [Act.put, zzA, zzB, zzC, i64_w, i32_w]
              rfl
             refine pure_ (i := 2) (N := some 41) (v := ?_) (a' := ?_) #[T0, T0, T0, F0, F0, F0, F0, F0, F0, F0, F0, F0, F0, F0, F0, F0, F0, F0, F0] rfl rfl (any_of HT_.out (by kernel_rfl)) (fun _ _ _ h => h) (Or.inl ⟨by rfl, ?_⟩) ?_ ?_
             rotate_left
             ·intro w'
              go_simp
              with_reducible rfl
             rotate_left
             ·simp only [Act.put, zzA, zzB, zzC, i64_w, i32_w]
              rfl
             refine pure_ (i := 3) (N := some 42) (v := ?_) (a' := ?_) #[T0, T0, T0, T0, F0, F0, F0, F0, F0, F0, F0, F0, F0, F0, F0, F0, F0, F0, F0] rfl rfl (any_of HT_.out (by kernel_rfl)) (fun _ _ _ h => h) (Or.inl ⟨by rfl, ?_⟩) ?_ ?_
             rotate_left
             ·intro w'
              go_simp
              with_reducible rfl
             rotate_left
             ·simp only [Act.put, zzA, zzB, zzC, i64_w, i32_w]
              rfl
             refine pure_ (i := 4) (N := some 43) (v := ?_) (a' := ?_) #[T0, T0, T0, T0, T0, F0, F0, F0, F0, F0, F0, F0, F0, F0, F0, F0, F0, F0, F0] rfl rfl (any_of HT_.out (by kernel_rfl)) (fun _ _ _ h => h) (Or.inl ⟨by rfl, ?_⟩) ?_ ?_
             rotate_left
             ·intro w'
              go_simp
              with_reducible rfl
             rotate_left
             ·simp only [Act.put, zzA, zzB, zzC, i64_w, i32_w]
              rfl
             refine pure_ (i := 6) (N := some 45) (v := ?_) (a' := ?_) #[T0, T0, T0, T0, T0, F0, T0, F0, F0, F0, F0, F0, F0, F0, F0, F0, F0, F0, F0] rfl rfl (any_of HT_.out (by kernel_rfl)) (fun _ _ _ h => h) (Or.inl ⟨by rfl, ?_⟩) ?_ ?_
             rotate_left
             ·intro w'
              go_simp
              with_reducible rfl
             rotate_left
             ·simp only [Act.put, zzA, zzB, zzC, i64_w, i32_w]
              rfl
             refine pure_ (i := 8) (N := some 47) (v := ?_) (a' := ?_) #[T0, T0, T0, T0, T0, F0, T0, F0, T0, F0, F0, F0, F0, F0, F0, F0, F0, F0, F0] rfl rfl (any_of HT_.out (by kernel_rfl)) (fun _ _ _ h => h) (Or.inl ⟨by rfl, ?_⟩) ?_ ?_
             rotate_left
             ·intro w'
              go_simp
              with_reducible rfl
             rotate_left
             ·simp only [Act.put, zzA, zzB, zzC, i64_w, i32_w]
              rfl
             refine pure_ (i := 10) (N := some 49) (v := ?_) (a' := ?_) #[T0, T0, T0, T0, T0, F0, T0, F0, T0, F0, T0, F0, F0, F0, F0, F0, F0, F0, F0] rfl rfl (any_of HT_.out (by kernel_rfl)) (fun _ _ _ h => h) (Or.inl ⟨by rfl, ?_⟩) ?_ ?_
             rotate_left
             ·intro w'
              go_simp
              with_reducible rfl
             rotate_left
             ·simp only [Act.put, zzA, zzB, zzC, i64_w, i32_w]
              rfl
             refine pure_ (i := 11) (N := some 50) (v := ?_) (a' := ?_) #[T0, T0, T0, T0, T0, F0, T0, F0, T0, F0, T0, T0, F0, F0, F0, F0, F0, F0, F0] rfl rfl (any_of HT_.out (by kernel_rfl)) (fun _ _ _ h => h) (Or.inl ⟨by rfl, ?_⟩) ?_ ?_
             rotate_left
             ·intro w'
              go_simp
              with_reducible rfl
             rotate_left
             ·simp only [Act.put, zzA, zzB, zzC, i64_w, i32_w]
              rfl
             refine pure_ (i := 12) (N := some 51) (v := ?_) (a' := ?_) #[T0, T0, T0, T0, T0, F0, T0, F0, T0, F0, T0, T0, T0, F0, F0, F0, F0, F0, F0] rfl rfl (any_of HT_.out (by kernel_rfl)) (fun _ _ _ h => h) (Or.inl ⟨by rfl, ?_⟩) ?_ ?_
             rotate_left
             ·intro w'
              go_simp
              with_reducible rfl
             rotate_left
             ·simp only [Act.put, zzA, zzB, zzC, i64_w, i32_w]
              rfl
             refine pure_ (i := 13) (N := some 52) (v := ?_) (a' := ?_) #[T0, T0, T0, T0, T0, F0, T0, F0, T0, F0, T0, T0, T0, T0, F0, F0, F0, F0, F0] rfl rfl (any_of HT_.out (by kernel_rfl)) (fun _ _ _ h => h) (Or.inl ⟨by rfl, ?_⟩) ?_ ?_
             rotate_left
             ·intro w'
              go_simp
              with_reducible rfl
             rotate_left
             ·simp only [Act.put, zzA, zzB, zzC, i64_w, i32_w]
              rfl
             refine pure_ (i := 14) (N := some 53) (v := ?_) (a' := ?_) #[T0, T0, T0, T0, T0, F0, T0, F0, T0, F0, T0, T0, T0, T0, T0, F0, F0, F0, F0] rfl rfl (any_of HT_.out (by kernel_rfl)) (fun _ _ _ h => h) (Or.inl ⟨by rfl, ?_⟩) ?_ ?_
             rotate_left
             ·intro w'
              go_simp
              with_reducible rfl
             rotate_left
             ·simp only [Act.put, zzA, zzB, zzC, i64_w, i32_w]
              rfl
             refine pure_ (i := 15) (N := some 54) (v := ?_) (a' := ?_) #[T0, T0, T0, T0, T0, F0, T0, F0, T0, F0, T0, T0, T0, T0, T0, T0, F0, F0, F0] rfl rfl (any_of HT_.out (by kernel_rfl)) (fun _ _ _ h => h) (Or.inl ⟨by rfl, ?_⟩) ?_ ?_
             rotate_left
             ·intro w'
              go_simp
              with_reducible rfl
             rotate_left
             ·simp only [Act.put, zzA, zzB, zzC, i64_w, i32_w]
              rfl
             refine one_ (i := 5) (N := some 44) #[T0, T0, T0, T0, T0, T0, T0, F0, T0, F0, T0, T0, T0, T0, T0, T0, F0, F0, F0] rfl rfl (one_of HT_.out (by kernel_rfl)) (by decide) (fun K hK => ?_)
             refine goes_ Try.func69 (by kernel_rfl) rfl #[.string a0, .int .i64 ji12] (by rfl) rfl rfl (by (try simp only [List.map_toArray, List.map_cons, List.map_nil]); first | done | (simp only [hji12]; rfl) | rfl | (simp only [List.length_drop, List.length_take]; rfl)) ?_
             with_reducible refine (impl_sized.calls a0 ji12 t609 _ A13.out).mono ?_
             rintro e w22 ⟨rfl, hb⟩
             refine ⟨_, rfl, ?_⟩
             have n0_ := Ak (below_step (by repeat (first | (with_reducible first | exact HB.out | apply below_alloc | apply pw_below_drewN | apply below_drew1) | exact HB.out)) hb)
             clear HB
             have HB := n0_
             clear n0_
             (try clear hb)
             (try clear hb2)
             (try clear hk)
             (try clear hi)
             refine hK.out _ _ trivial (fun hHeld => ?_)
             clear hK K
             refine norm_ (a' := ?_) ?_ ?_
             rotate_left
             ·show Act.put _ (some 44) _ = _
              simp only [Act.put, zzA, zzB, zzC, i64_w, i32_w]
              rfl
             refine pure_ (i := 7) (N := some 46) (v := ?_) (a' := ?_) #[T0, T0, T0, T0, T0, T0, T0, T0, T0, F0, T0, T0, T0, T0, T0, T0, F0, F0, F0] rfl rfl (any_of HT_.out (by kernel_rfl)) (fun _ _ _ h => h) (Or.inl ⟨by rfl, ?_⟩) ?_ ?_
             rotate_left
             ·intro w'
              go_simp
              with_reducible rfl
             rotate_left
             ·simp only [Act.put, zzA, zzB, zzC, i64_w, i32_w]
              rfl
             refine pure_ (i := 9) (N := some 48) (v := ?_) (a' := ?_) #[T0, T0, T0, T0, T0, T0, T0, T0, T0, T0, T0, T0, T0, T0, T0, T0, F0, F0, F0] rfl rfl (any_of HT_.out (by kernel_rfl)) (fun _ _ _ h => h) (Or.inl ⟨by rfl, ?_⟩) ?_ ?_
             rotate_left
             ·intro w'
              go_simp
              with_reducible rfl
             rotate_left
             ·simp only [Act.put, zzA, zzB, zzC, i64_w, i32_w]
              rfl
             refine pure_ (i := 16) (N := some 55) (v := ?_) (a' := ?_) #[T0, T0, T0, T0, T0, T0, T0, T0, T0, T0, T0, T0, T0, T0, T0, T0, T0, F0, F0] rfl rfl (any_of HT_.out (by kernel_rfl)) (fun _ _ _ h => h) (Or.inl ⟨by rfl, ?_⟩) ?_ ?_
             rotate_left
             ·intro w'
              go_simp
              with_reducible rfl
             rotate_left
             ·simp only [Act.put, zzA, zzB, zzC, i64_w, i32_w]
              rfl
             refine pure_ (i := 17) (N := some 6) (v := ?_) (a' := ?_) #[T0, T0, T0, T0, T0, T0, T0, T0, T0, T0, T0, T0, T0, T0, T0, T0, T0, T0, F0] rfl rfl (any_of HT_.out (by kernel_rfl)) (fun _ _ _ h => h) (Or.inl ⟨by rfl, ?_⟩) ?_ ?_
             rotate_left
             ·intro w'
              go_simp
              with_reducible rfl
             rotate_left
             ·simp only [Act.put, zzA, zzB, zzC, i64_w, i32_w]
              rfl
             refine pure_ (i := 18) (N := some 7) (v := ?_) (a' := ?_) #[T0, T0, T0, T0, T0, T0, T0, T0, T0, T0, T0, T0, T0, T0, T0, T0, T0, T0, T0] rfl rfl (any_of HT_.out (by kernel_rfl)) (fun _ _ _ h => h) (Or.inl ⟨by rfl, ?_⟩) ?_ ?_
             rotate_left
             ·intro w'
              go_simp
              with_reducible rfl
             rotate_left
             ·simp only [Act.put, zzA, zzB, zzC, i64_w, i32_w]
              rfl
             refine done_ (done_of HT_.out (by kernel_rfl)) ?_
             try go_wp2
             go_ret2
             exact ⟨by first | rfl | (simp [errW_none, errW_some] <;> rfl) | (simp only [← hji12, ← hji17]; first | rfl | (simp [errW_none, errW_some] <;> rfl)) | (simp [*, errW_none, errW_some] <;> rfl), by repeat (first | (with_reducible first | exact HB.out | apply below_alloc | apply pw_below_drewN | apply below_drew1) | exact HB.out)⟩
            ·rw [if_neg c20] at H
             exact absurd H (by simp)
           ·rw [if_neg c19] at H
            exact absurd H (by simp)
          ·rw [if_neg c18] at H
           exact absurd H (by simp)
         ·rw [if_neg c16] at H
          exact absurd H (by simp)
        ·rw [if_neg c15] at H
         exact absurd H (by simp)
       ·rw [if_neg c14] at H
        exact absurd H (by simp)
     ·replace c10 := Bool.eq_false_iff.mpr c10
      subst c10
      have H1 : (some (a0, false)) = some (r1, r2) := by rw [if_neg (show ¬ (false = true) by decide)] at H; exact H
      clear H
      have H := H1
      clear H1
      simp only [Option.some.injEq, Prod.mk.injEq] at H
      obtain ⟨rfl, rfl⟩ := H
      go_enter Try.func41, Try.ntmps41
      go_wp2_with (first | ((with_reducible refine gate_callee (f := 57) rfl ?_); refine goesL_ (some 10) rfl rfl Try.func57 (by kernel_rfl) rfl #[.string a0] rfl (by (try simp only [List.map_toArray, List.map_cons, List.map_nil]); first | done | rfl | (simp only [List.length_drop, List.length_take]; rfl)) ?_; (with_reducible refine (impl_TextOk.calls k a0 true _ A4.out).mono ?_); rintro e w' ⟨rfl, ⟨nd, rfl⟩⟩; refine ⟨_, rfl, ?_⟩) | (go_at_call 57; (with_reducible refine (impl_TextOk.calls k a2 false _ A9.out).mono ?_); rintro e w' ⟨rfl, ⟨nd, rfl⟩⟩))
      go_ret2
      exact ⟨by first | rfl | (simp [errW_none, errW_some] <;> rfl) | (simp [*, errW_none, errW_some] <;> rfl), by repeat (first | (with_reducible first | exact HB.out | apply below_alloc | apply pw_below_drewN | apply below_drew1) | exact HB.out)⟩
 ·replace c5 := Bool.eq_false_iff.mpr c5
  subst c5
  have H1 : (some ((⟨#[]⟩ : ByteArray), false)) = some (r1, r2) := by rw [if_neg (show ¬ (false = true) by decide)] at H; exact H
  clear H
  have H := H1
  clear H1
  simp only [Option.some.injEq, Prod.mk.injEq] at H
  obtain ⟨rfl, rfl⟩ := H
  go_enter Try.func41, Try.ntmps41
  go_wp2_with (first | ((with_reducible refine gate_callee (f := 57) rfl ?_); refine goesL_ (some 10) rfl rfl Try.func57 (by kernel_rfl) rfl #[.string a0] rfl (by (try simp only [List.map_toArray, List.map_cons, List.map_nil]); first | done | rfl | (simp only [List.length_drop, List.length_take]; rfl)) ?_; (with_reducible refine (impl_TextOk.calls k a0 false _ A4.out).mono ?_); rintro e w' ⟨rfl, ⟨nd, rfl⟩⟩; refine ⟨_, rfl, ?_⟩))
  go_ret2
  exact ⟨by first | rfl | (simp [errW_none, errW_some] <;> rfl) | (simp [*, errW_none, errW_some] <;> rfl), by repeat (first | (with_reducible first | exact HB.out | apply below_alloc | apply pw_below_drewN | apply below_drew1) | exact HB.out)⟩
def spec_l5Req.f (k : Nat) (a0_0 : Int) (a0_1 : Int) (a0_2 : Int) (a0_3 : Int) (a0_4 : Int) (a0_5 : ByteArray) : Option (Bool) := (spec_l4Who.f a0_0).bind fun t276 => (if t276 = true then (if a0_1 < 0 then (some false) else (if a0_1 > 100 then (some false) else (if a0_2 < 1 then (some false) else (if a0_2 > 1000 then (some false) else (if a0_3 < 0 then (some false) else (if a0_3 ≥ 3 then (some false) else (if a0_4 ≥ 0 then (if a0_4 ≤ 48 then ((spec_TextOk.f k a0_5).bind fun t277 => (if t277 = true then (if a0_5.toList = ([] : List UInt8) then (some false) else (some (decide ((wrap64 (a0_4 + (a0_5.size : Int))) ≤ 48)))) else (some false))) else (some false)) else (some false)))))))) else (some false))
set_option maxHeartbeats 8000000 in
set_option maxRecDepth 100000 in
theorem spec_l5Req.calls (k : Nat) (a0_0 : Int) (a0_1 : Int) (a0_2 : Int) (a0_3 : Int) (a0_4 : Int) (a0_5 : ByteArray) (r : Bool) (w : World) (h : spec_l5Req.f k a0_0 a0_1 a0_2 a0_3 a0_4 a0_5 = some r) :
  Calls Try.prog 73 #[.agg #[.int .i64 a0_0, .int .i64 a0_1, .int .i64 a0_2, .int .i64 a0_3, .int .i64 a0_4, .string a0_5]] w fun e w' => e = .returned (.bool r) ∧ Below w.heap.size w w' := by
 have hu52 := Try.underlying52
 have HB := Ak (Below.refl w.heap.size w)
 have H : ((spec_l4Who.f a0_0).bind fun t276 => (if t276 = true then (if a0_1 < 0 then (some false) else (if a0_1 > 100 then (some false) else (if a0_2 < 1 then (some false) else (if a0_2 > 1000 then (some false) else (if a0_3 < 0 then (some false) else (if a0_3 ≥ 3 then (some false) else (if a0_4 ≥ 0 then (if a0_4 ≤ 48 then ((spec_TextOk.f k a0_5).bind fun t277 => (if t277 = true then (if a0_5.toList = ([] : List UInt8) then (some false) else (some (decide ((wrap64 (a0_4 + (a0_5.size : Int))) ≤ 48)))) else (some false))) else (some false)) else (some false)))))))) else (some false))) = some r := h
 clear h
 replace H := Option.bind_eq_some_iff.mp H
 obtain ⟨t276, A20, H⟩ := H
 replace H : (if t276 = true then (if a0_1 < 0 then (some false) else (if a0_1 > 100 then (some false) else (if a0_2 < 1 then (some false) else (if a0_2 > 1000 then (some false) else (if a0_3 < 0 then (some false) else (if a0_3 ≥ 3 then (some false) else (if a0_4 ≥ 0 then (if a0_4 ≤ 48 then ((spec_TextOk.f k a0_5).bind fun t277 => (if t277 = true then (if a0_5.toList = ([] : List UInt8) then (some false) else (some (decide ((wrap64 (a0_4 + (a0_5.size : Int))) ≤ 48)))) else (some false))) else (some false)) else (some false)))))))) else (some false)) = some r := H
 have A2 := Ak A20
 clear A20
 by_cases c3 : t276 = true
 ·subst c3
  have H1 : (if a0_1 < 0 then (some false) else (if a0_1 > 100 then (some false) else (if a0_2 < 1 then (some false) else (if a0_2 > 1000 then (some false) else (if a0_3 < 0 then (some false) else (if a0_3 ≥ 3 then (some false) else (if a0_4 ≥ 0 then (if a0_4 ≤ 48 then ((spec_TextOk.f k a0_5).bind fun t277 => (if t277 = true then (if a0_5.toList = ([] : List UInt8) then (some false) else (some (decide ((wrap64 (a0_4 + (a0_5.size : Int))) ≤ 48)))) else (some false))) else (some false)) else (some false)))))))) = some r := by rw [if_pos rfl] at H; exact H
  clear H
  have H := H1
  clear H1
  by_cases c4 : a0_1 < 0
  ·rw [if_pos c4] at H
   have c4b0 : decide (a0_1 < 0) = true := decide_eq_true c4
   clear c4
   obtain rfl := Option.some.inj H
   go_enter Try.func73, Try.ntmps73
   go_wp2_with (first | ((with_reducible refine gate_dst (N := 1) rfl ?_); (try (refine gate_guard (by rfl) ?_; dsimp only)); refine box_event ?hg (N := 1) ?hd (cs := #[.int .i64 a0_0, .int .i64 a0_1, .int .i64 a0_2, .int .i64 a0_3, .int .i64 a0_4, .string a0_5]) (t := 52) ?hr ?_; (case hd => rfl); (case hg => rfl); (case hr => first | (go_simp; done) | (go_simp; rfl)); intro gb275 hg w5 hbox hb; have n0_ := Ak (below_step (by repeat (first | (with_reducible first | exact HB.out | apply below_alloc | apply pw_below_drewN | apply below_drew1) | exact HB.out)) hb); have n1_ := Ak (hbox); have n2_ := Ak ((by rw [hg]; exact (below_size (by repeat (first | (with_reducible first | exact HB.out | apply below_alloc | apply pw_below_drewN | apply below_drew1) | exact HB.out))) : w.heap.size ≤ gb275)); have n3_ := Ak ((by rw [hg]; exact (below_size (by repeat (first | (with_reducible first | exact HB.out | apply below_alloc | apply pw_below_drewN | apply below_drew1) | exact HB.out))) : w.heap.size ≤ gb275)); clear HB; have HB := n0_; have BK275 := n1_; have GW275 := n2_; have GE275 := n3_; clear n0_ n1_ n2_ n3_; clear hb hbox hg; have hcz6_0 : w5.cell? ⟨gb275, 0, none⟩ = some (.int .i64 a0_0) := (blk_cell BK275.out 0).trans rfl; have hcz6_1 : w5.cell? ⟨gb275, 1, none⟩ = some (.int .i64 a0_1) := (blk_cell BK275.out 1).trans rfl; have hcz6_2 : w5.cell? ⟨gb275, 2, none⟩ = some (.int .i64 a0_2) := (blk_cell BK275.out 2).trans rfl; have hcz6_3 : w5.cell? ⟨gb275, 3, none⟩ = some (.int .i64 a0_3) := (blk_cell BK275.out 3).trans rfl; have hcz6_4 : w5.cell? ⟨gb275, 4, none⟩ = some (.int .i64 a0_4) := (blk_cell BK275.out 4).trans rfl; have hcz6_5 : w5.cell? ⟨gb275, 5, none⟩ = some (.string a0_5) := (blk_cell BK275.out 5).trans rfl; have hfz6_0 := blk_frozen BK275.out 0; have hfz6_1 := blk_frozen BK275.out 1; have hfz6_2 := blk_frozen BK275.out 2; have hfz6_3 := blk_frozen BK275.out 3; have hfz6_4 := blk_frozen BK275.out 4; have hfz6_5 := blk_frozen BK275.out 5) | ((with_reducible refine gate_callee (f := 71) rfl ?_); refine goesL_ (some 5) rfl rfl Try.func71 (by kernel_rfl) rfl #[.int .i64 a0_0] rfl (by (try simp only [List.map_toArray, List.map_cons, List.map_nil]); first | done | rfl | (simp only [List.length_drop, List.length_take]; rfl)) ?_; (with_reducible refine (spec_l4Who.calls a0_0 true _ A2.out).mono ?_); rintro e w' ⟨rfl, ⟨nd, rfl⟩⟩; refine ⟨_, rfl, ?_⟩))
   go_ret
   exact ⟨by first | rfl | (simp [errW_none, errW_some] <;> rfl) | (simp [*, errW_none, errW_some] <;> rfl), by repeat (first | (with_reducible first | exact HB.out | apply below_alloc | apply pw_below_drewN | apply below_drew1 | refine below_set ?_ GE275.out) | exact HB.out)⟩
  ·rw [if_neg c4] at H
   have c4b0 : decide (a0_1 < 0) = false := decide_eq_false c4
   clear c4
   by_cases c7 : a0_1 > 100
   ·rw [if_pos c7] at H
    have c7b0 : decide (100 < a0_1) = true := decide_eq_true c7
    clear c7
    obtain rfl := Option.some.inj H
    go_enter Try.func73, Try.ntmps73
    go_wp2_with (first | ((with_reducible refine gate_dst (N := 1) rfl ?_); (try (refine gate_guard (by rfl) ?_; dsimp only)); refine box_event ?hg (N := 1) ?hd (cs := #[.int .i64 a0_0, .int .i64 a0_1, .int .i64 a0_2, .int .i64 a0_3, .int .i64 a0_4, .string a0_5]) (t := 52) ?hr ?_; (case hd => rfl); (case hg => rfl); (case hr => first | (go_simp; done) | (go_simp; rfl)); intro gb275 hg w8 hbox hb; have n0_ := Ak (below_step (by repeat (first | (with_reducible first | exact HB.out | apply below_alloc | apply pw_below_drewN | apply below_drew1) | exact HB.out)) hb); have n1_ := Ak (hbox); have n2_ := Ak ((by rw [hg]; exact (below_size (by repeat (first | (with_reducible first | exact HB.out | apply below_alloc | apply pw_below_drewN | apply below_drew1) | exact HB.out))) : w.heap.size ≤ gb275)); have n3_ := Ak ((by rw [hg]; exact (below_size (by repeat (first | (with_reducible first | exact HB.out | apply below_alloc | apply pw_below_drewN | apply below_drew1) | exact HB.out))) : w.heap.size ≤ gb275)); clear HB; have HB := n0_; have BK275 := n1_; have GW275 := n2_; have GE275 := n3_; clear n0_ n1_ n2_ n3_; clear hb hbox hg; have hcz9_0 : w8.cell? ⟨gb275, 0, none⟩ = some (.int .i64 a0_0) := (blk_cell BK275.out 0).trans rfl; have hcz9_1 : w8.cell? ⟨gb275, 1, none⟩ = some (.int .i64 a0_1) := (blk_cell BK275.out 1).trans rfl; have hcz9_2 : w8.cell? ⟨gb275, 2, none⟩ = some (.int .i64 a0_2) := (blk_cell BK275.out 2).trans rfl; have hcz9_3 : w8.cell? ⟨gb275, 3, none⟩ = some (.int .i64 a0_3) := (blk_cell BK275.out 3).trans rfl; have hcz9_4 : w8.cell? ⟨gb275, 4, none⟩ = some (.int .i64 a0_4) := (blk_cell BK275.out 4).trans rfl; have hcz9_5 : w8.cell? ⟨gb275, 5, none⟩ = some (.string a0_5) := (blk_cell BK275.out 5).trans rfl; have hfz9_0 := blk_frozen BK275.out 0; have hfz9_1 := blk_frozen BK275.out 1; have hfz9_2 := blk_frozen BK275.out 2; have hfz9_3 := blk_frozen BK275.out 3; have hfz9_4 := blk_frozen BK275.out 4; have hfz9_5 := blk_frozen BK275.out 5) | ((with_reducible refine gate_callee (f := 71) rfl ?_); refine goesL_ (some 5) rfl rfl Try.func71 (by kernel_rfl) rfl #[.int .i64 a0_0] rfl (by (try simp only [List.map_toArray, List.map_cons, List.map_nil]); first | done | rfl | (simp only [List.length_drop, List.length_take]; rfl)) ?_; (with_reducible refine (spec_l4Who.calls a0_0 true _ A2.out).mono ?_); rintro e w' ⟨rfl, ⟨nd, rfl⟩⟩; refine ⟨_, rfl, ?_⟩))
    go_ret
    exact ⟨by first | rfl | (simp [errW_none, errW_some] <;> rfl) | (simp [*, errW_none, errW_some] <;> rfl), by repeat (first | (with_reducible first | exact HB.out | apply below_alloc | apply pw_below_drewN | apply below_drew1 | refine below_set ?_ GE275.out) | exact HB.out)⟩
   ·rw [if_neg c7] at H
    have c7b0 : decide (100 < a0_1) = false := decide_eq_false c7
    clear c7
    by_cases c10 : a0_2 < 1
    ·rw [if_pos c10] at H
     have c10b0 : decide (a0_2 < 1) = true := decide_eq_true c10
     clear c10
     obtain rfl := Option.some.inj H
     go_enter Try.func73, Try.ntmps73
     go_wp2_with (first | ((with_reducible refine gate_dst (N := 1) rfl ?_); (try (refine gate_guard (by rfl) ?_; dsimp only)); refine box_event ?hg (N := 1) ?hd (cs := #[.int .i64 a0_0, .int .i64 a0_1, .int .i64 a0_2, .int .i64 a0_3, .int .i64 a0_4, .string a0_5]) (t := 52) ?hr ?_; (case hd => rfl); (case hg => rfl); (case hr => first | (go_simp; done) | (go_simp; rfl)); intro gb275 hg w11 hbox hb; have n0_ := Ak (below_step (by repeat (first | (with_reducible first | exact HB.out | apply below_alloc | apply pw_below_drewN | apply below_drew1) | exact HB.out)) hb); have n1_ := Ak (hbox); have n2_ := Ak ((by rw [hg]; exact (below_size (by repeat (first | (with_reducible first | exact HB.out | apply below_alloc | apply pw_below_drewN | apply below_drew1) | exact HB.out))) : w.heap.size ≤ gb275)); have n3_ := Ak ((by rw [hg]; exact (below_size (by repeat (first | (with_reducible first | exact HB.out | apply below_alloc | apply pw_below_drewN | apply below_drew1) | exact HB.out))) : w.heap.size ≤ gb275)); clear HB; have HB := n0_; have BK275 := n1_; have GW275 := n2_; have GE275 := n3_; clear n0_ n1_ n2_ n3_; clear hb hbox hg; have hcz12_0 : w11.cell? ⟨gb275, 0, none⟩ = some (.int .i64 a0_0) := (blk_cell BK275.out 0).trans rfl; have hcz12_1 : w11.cell? ⟨gb275, 1, none⟩ = some (.int .i64 a0_1) := (blk_cell BK275.out 1).trans rfl; have hcz12_2 : w11.cell? ⟨gb275, 2, none⟩ = some (.int .i64 a0_2) := (blk_cell BK275.out 2).trans rfl; have hcz12_3 : w11.cell? ⟨gb275, 3, none⟩ = some (.int .i64 a0_3) := (blk_cell BK275.out 3).trans rfl; have hcz12_4 : w11.cell? ⟨gb275, 4, none⟩ = some (.int .i64 a0_4) := (blk_cell BK275.out 4).trans rfl; have hcz12_5 : w11.cell? ⟨gb275, 5, none⟩ = some (.string a0_5) := (blk_cell BK275.out 5).trans rfl; have hfz12_0 := blk_frozen BK275.out 0; have hfz12_1 := blk_frozen BK275.out 1; have hfz12_2 := blk_frozen BK275.out 2; have hfz12_3 := blk_frozen BK275.out 3; have hfz12_4 := blk_frozen BK275.out 4; have hfz12_5 := blk_frozen BK275.out 5) | ((with_reducible refine gate_callee (f := 71) rfl ?_); refine goesL_ (some 5) rfl rfl Try.func71 (by kernel_rfl) rfl #[.int .i64 a0_0] rfl (by (try simp only [List.map_toArray, List.map_cons, List.map_nil]); first | done | rfl | (simp only [List.length_drop, List.length_take]; rfl)) ?_; (with_reducible refine (spec_l4Who.calls a0_0 true _ A2.out).mono ?_); rintro e w' ⟨rfl, ⟨nd, rfl⟩⟩; refine ⟨_, rfl, ?_⟩))
     go_ret
     exact ⟨by first | rfl | (simp [errW_none, errW_some] <;> rfl) | (simp [*, errW_none, errW_some] <;> rfl), by repeat (first | (with_reducible first | exact HB.out | apply below_alloc | apply pw_below_drewN | apply below_drew1 | refine below_set ?_ GE275.out) | exact HB.out)⟩
    ·rw [if_neg c10] at H
     have c10b0 : decide (a0_2 < 1) = false := decide_eq_false c10
     clear c10
     by_cases c13 : a0_2 > 1000
     ·rw [if_pos c13] at H
      have c13b0 : decide (1000 < a0_2) = true := decide_eq_true c13
      clear c13
      obtain rfl := Option.some.inj H
      go_enter Try.func73, Try.ntmps73
      go_wp2_with (first | ((with_reducible refine gate_dst (N := 1) rfl ?_); (try (refine gate_guard (by rfl) ?_; dsimp only)); refine box_event ?hg (N := 1) ?hd (cs := #[.int .i64 a0_0, .int .i64 a0_1, .int .i64 a0_2, .int .i64 a0_3, .int .i64 a0_4, .string a0_5]) (t := 52) ?hr ?_; (case hd => rfl); (case hg => rfl); (case hr => first | (go_simp; done) | (go_simp; rfl)); intro gb275 hg w14 hbox hb; have n0_ := Ak (below_step (by repeat (first | (with_reducible first | exact HB.out | apply below_alloc | apply pw_below_drewN | apply below_drew1) | exact HB.out)) hb); have n1_ := Ak (hbox); have n2_ := Ak ((by rw [hg]; exact (below_size (by repeat (first | (with_reducible first | exact HB.out | apply below_alloc | apply pw_below_drewN | apply below_drew1) | exact HB.out))) : w.heap.size ≤ gb275)); have n3_ := Ak ((by rw [hg]; exact (below_size (by repeat (first | (with_reducible first | exact HB.out | apply below_alloc | apply pw_below_drewN | apply below_drew1) | exact HB.out))) : w.heap.size ≤ gb275)); clear HB; have HB := n0_; have BK275 := n1_; have GW275 := n2_; have GE275 := n3_; clear n0_ n1_ n2_ n3_; clear hb hbox hg; have hcz15_0 : w14.cell? ⟨gb275, 0, none⟩ = some (.int .i64 a0_0) := (blk_cell BK275.out 0).trans rfl; have hcz15_1 : w14.cell? ⟨gb275, 1, none⟩ = some (.int .i64 a0_1) := (blk_cell BK275.out 1).trans rfl; have hcz15_2 : w14.cell? ⟨gb275, 2, none⟩ = some (.int .i64 a0_2) := (blk_cell BK275.out 2).trans rfl; have hcz15_3 : w14.cell? ⟨gb275, 3, none⟩ = some (.int .i64 a0_3) := (blk_cell BK275.out 3).trans rfl; have hcz15_4 : w14.cell? ⟨gb275, 4, none⟩ = some (.int .i64 a0_4) := (blk_cell BK275.out 4).trans rfl; have hcz15_5 : w14.cell? ⟨gb275, 5, none⟩ = some (.string a0_5) := (blk_cell BK275.out 5).trans rfl; have hfz15_0 := blk_frozen BK275.out 0; have hfz15_1 := blk_frozen BK275.out 1; have hfz15_2 := blk_frozen BK275.out 2; have hfz15_3 := blk_frozen BK275.out 3; have hfz15_4 := blk_frozen BK275.out 4; have hfz15_5 := blk_frozen BK275.out 5) | ((with_reducible refine gate_callee (f := 71) rfl ?_); refine goesL_ (some 5) rfl rfl Try.func71 (by kernel_rfl) rfl #[.int .i64 a0_0] rfl (by (try simp only [List.map_toArray, List.map_cons, List.map_nil]); first | done | rfl | (simp only [List.length_drop, List.length_take]; rfl)) ?_; (with_reducible refine (spec_l4Who.calls a0_0 true _ A2.out).mono ?_); rintro e w' ⟨rfl, ⟨nd, rfl⟩⟩; refine ⟨_, rfl, ?_⟩))
      go_ret
      exact ⟨by first | rfl | (simp [errW_none, errW_some] <;> rfl) | (simp [*, errW_none, errW_some] <;> rfl), by repeat (first | (with_reducible first | exact HB.out | apply below_alloc | apply pw_below_drewN | apply below_drew1 | refine below_set ?_ GE275.out) | exact HB.out)⟩
     ·rw [if_neg c13] at H
      have c13b0 : decide (1000 < a0_2) = false := decide_eq_false c13
      clear c13
      by_cases c16 : a0_3 < 0
      ·rw [if_pos c16] at H
       have c16b0 : decide (a0_3 < 0) = true := decide_eq_true c16
       clear c16
       obtain rfl := Option.some.inj H
       go_enter Try.func73, Try.ntmps73
       go_wp2_with (first | ((with_reducible refine gate_dst (N := 1) rfl ?_); (try (refine gate_guard (by rfl) ?_; dsimp only)); refine box_event ?hg (N := 1) ?hd (cs := #[.int .i64 a0_0, .int .i64 a0_1, .int .i64 a0_2, .int .i64 a0_3, .int .i64 a0_4, .string a0_5]) (t := 52) ?hr ?_; (case hd => rfl); (case hg => rfl); (case hr => first | (go_simp; done) | (go_simp; rfl)); intro gb275 hg w17 hbox hb; have n0_ := Ak (below_step (by repeat (first | (with_reducible first | exact HB.out | apply below_alloc | apply pw_below_drewN | apply below_drew1) | exact HB.out)) hb); have n1_ := Ak (hbox); have n2_ := Ak ((by rw [hg]; exact (below_size (by repeat (first | (with_reducible first | exact HB.out | apply below_alloc | apply pw_below_drewN | apply below_drew1) | exact HB.out))) : w.heap.size ≤ gb275)); have n3_ := Ak ((by rw [hg]; exact (below_size (by repeat (first | (with_reducible first | exact HB.out | apply below_alloc | apply pw_below_drewN | apply below_drew1) | exact HB.out))) : w.heap.size ≤ gb275)); clear HB; have HB := n0_; have BK275 := n1_; have GW275 := n2_; have GE275 := n3_; clear n0_ n1_ n2_ n3_; clear hb hbox hg; have hcz18_0 : w17.cell? ⟨gb275, 0, none⟩ = some (.int .i64 a0_0) := (blk_cell BK275.out 0).trans rfl; have hcz18_1 : w17.cell? ⟨gb275, 1, none⟩ = some (.int .i64 a0_1) := (blk_cell BK275.out 1).trans rfl; have hcz18_2 : w17.cell? ⟨gb275, 2, none⟩ = some (.int .i64 a0_2) := (blk_cell BK275.out 2).trans rfl; have hcz18_3 : w17.cell? ⟨gb275, 3, none⟩ = some (.int .i64 a0_3) := (blk_cell BK275.out 3).trans rfl; have hcz18_4 : w17.cell? ⟨gb275, 4, none⟩ = some (.int .i64 a0_4) := (blk_cell BK275.out 4).trans rfl; have hcz18_5 : w17.cell? ⟨gb275, 5, none⟩ = some (.string a0_5) := (blk_cell BK275.out 5).trans rfl; have hfz18_0 := blk_frozen BK275.out 0; have hfz18_1 := blk_frozen BK275.out 1; have hfz18_2 := blk_frozen BK275.out 2; have hfz18_3 := blk_frozen BK275.out 3; have hfz18_4 := blk_frozen BK275.out 4; have hfz18_5 := blk_frozen BK275.out 5) | ((with_reducible refine gate_callee (f := 71) rfl ?_); refine goesL_ (some 5) rfl rfl Try.func71 (by kernel_rfl) rfl #[.int .i64 a0_0] rfl (by (try simp only [List.map_toArray, List.map_cons, List.map_nil]); first | done | rfl | (simp only [List.length_drop, List.length_take]; rfl)) ?_; (with_reducible refine (spec_l4Who.calls a0_0 true _ A2.out).mono ?_); rintro e w' ⟨rfl, ⟨nd, rfl⟩⟩; refine ⟨_, rfl, ?_⟩))
       go_ret
       exact ⟨by first | rfl | (simp [errW_none, errW_some] <;> rfl) | (simp [*, errW_none, errW_some] <;> rfl), by repeat (first | (with_reducible first | exact HB.out | apply below_alloc | apply pw_below_drewN | apply below_drew1 | refine below_set ?_ GE275.out) | exact HB.out)⟩
      ·rw [if_neg c16] at H
       have c16b0 : decide (a0_3 < 0) = false := decide_eq_false c16
       clear c16
       by_cases c19 : a0_3 ≥ 3
       ·rw [if_pos c19] at H
        have c19b0 : decide (3 ≤ a0_3) = true := decide_eq_true c19
        clear c19
        obtain rfl := Option.some.inj H
        go_enter Try.func73, Try.ntmps73
        go_wp2_with (first | ((with_reducible refine gate_dst (N := 1) rfl ?_); (try (refine gate_guard (by rfl) ?_; dsimp only)); refine box_event ?hg (N := 1) ?hd (cs := #[.int .i64 a0_0, .int .i64 a0_1, .int .i64 a0_2, .int .i64 a0_3, .int .i64 a0_4, .string a0_5]) (t := 52) ?hr ?_; (case hd => rfl); (case hg => rfl); (case hr => first | (go_simp; done) | (go_simp; rfl)); intro gb275 hg w20 hbox hb; have n0_ := Ak (below_step (by repeat (first | (with_reducible first | exact HB.out | apply below_alloc | apply pw_below_drewN | apply below_drew1) | exact HB.out)) hb); have n1_ := Ak (hbox); have n2_ := Ak ((by rw [hg]; exact (below_size (by repeat (first | (with_reducible first | exact HB.out | apply below_alloc | apply pw_below_drewN | apply below_drew1) | exact HB.out))) : w.heap.size ≤ gb275)); have n3_ := Ak ((by rw [hg]; exact (below_size (by repeat (first | (with_reducible first | exact HB.out | apply below_alloc | apply pw_below_drewN | apply below_drew1) | exact HB.out))) : w.heap.size ≤ gb275)); clear HB; have HB := n0_; have BK275 := n1_; have GW275 := n2_; have GE275 := n3_; clear n0_ n1_ n2_ n3_; clear hb hbox hg; have hcz21_0 : w20.cell? ⟨gb275, 0, none⟩ = some (.int .i64 a0_0) := (blk_cell BK275.out 0).trans rfl; have hcz21_1 : w20.cell? ⟨gb275, 1, none⟩ = some (.int .i64 a0_1) := (blk_cell BK275.out 1).trans rfl; have hcz21_2 : w20.cell? ⟨gb275, 2, none⟩ = some (.int .i64 a0_2) := (blk_cell BK275.out 2).trans rfl; have hcz21_3 : w20.cell? ⟨gb275, 3, none⟩ = some (.int .i64 a0_3) := (blk_cell BK275.out 3).trans rfl; have hcz21_4 : w20.cell? ⟨gb275, 4, none⟩ = some (.int .i64 a0_4) := (blk_cell BK275.out 4).trans rfl; have hcz21_5 : w20.cell? ⟨gb275, 5, none⟩ = some (.string a0_5) := (blk_cell BK275.out 5).trans rfl; have hfz21_0 := blk_frozen BK275.out 0; have hfz21_1 := blk_frozen BK275.out 1; have hfz21_2 := blk_frozen BK275.out 2; have hfz21_3 := blk_frozen BK275.out 3; have hfz21_4 := blk_frozen BK275.out 4; have hfz21_5 := blk_frozen BK275.out 5) | ((with_reducible refine gate_callee (f := 71) rfl ?_); refine goesL_ (some 5) rfl rfl Try.func71 (by kernel_rfl) rfl #[.int .i64 a0_0] rfl (by (try simp only [List.map_toArray, List.map_cons, List.map_nil]); first | done | rfl | (simp only [List.length_drop, List.length_take]; rfl)) ?_; (with_reducible refine (spec_l4Who.calls a0_0 true _ A2.out).mono ?_); rintro e w' ⟨rfl, ⟨nd, rfl⟩⟩; refine ⟨_, rfl, ?_⟩))
        go_ret
        exact ⟨by first | rfl | (simp [errW_none, errW_some] <;> rfl) | (simp [*, errW_none, errW_some] <;> rfl), by repeat (first | (with_reducible first | exact HB.out | apply below_alloc | apply pw_below_drewN | apply below_drew1 | refine below_set ?_ GE275.out) | exact HB.out)⟩
       ·rw [if_neg c19] at H
        have c19b0 : decide (3 ≤ a0_3) = false := decide_eq_false c19
        clear c19
        by_cases c22 : a0_4 ≥ 0
        ·rw [if_pos c22] at H
         have c22b0 : decide (0 ≤ a0_4) = true := decide_eq_true c22
         clear c22
         by_cases c23 : a0_4 ≤ 48
         ·rw [if_pos c23] at H
          have c23b0 : decide (a0_4 ≤ 48) = true := decide_eq_true c23
          clear c23
          replace H := Option.bind_eq_some_iff.mp H
          obtain ⟨t277, A240, H⟩ := H
          replace H : (if t277 = true then (if a0_5.toList = ([] : List UInt8) then (some false) else (some (decide ((wrap64 (a0_4 + (a0_5.size : Int))) ≤ 48)))) else (some false)) = some r := H
          have A24 := Ak A240
          clear A240
          by_cases c25 : t277 = true
          ·subst c25
           have H1 : (if a0_5.toList = ([] : List UInt8) then (some false) else (some (decide ((wrap64 (a0_4 + (a0_5.size : Int))) ≤ 48)))) = some r := by rw [if_pos rfl] at H; exact H
           clear H
           have H := H1
           clear H1
           by_cases c26 : a0_5.toList = ([] : List UInt8)
           ·rw [if_pos c26] at H
            have c26b0 : (a0_5.toList == ([] : List UInt8)) = true := beq_iff_eq.mpr c26
            have c26b1 : (a0_5.toList != ([] : List UInt8)) = false := bne_eq_false_iff_eq.mpr c26
            clear c26
            obtain rfl := Option.some.inj H
            go_enter Try.func73, Try.ntmps73
            go_wp2_with (first | ((with_reducible refine gate_dst (N := 1) rfl ?_); (try (refine gate_guard (by rfl) ?_; dsimp only)); refine box_event ?hg (N := 1) ?hd (cs := #[.int .i64 a0_0, .int .i64 a0_1, .int .i64 a0_2, .int .i64 a0_3, .int .i64 a0_4, .string a0_5]) (t := 52) ?hr ?_; (case hd => rfl); (case hg => rfl); (case hr => first | (go_simp; done) | (go_simp; rfl)); intro gb275 hg w27 hbox hb; have n0_ := Ak (below_step (by repeat (first | (with_reducible first | exact HB.out | apply below_alloc | apply pw_below_drewN | apply below_drew1) | exact HB.out)) hb); have n1_ := Ak (hbox); have n2_ := Ak ((by rw [hg]; exact (below_size (by repeat (first | (with_reducible first | exact HB.out | apply below_alloc | apply pw_below_drewN | apply below_drew1) | exact HB.out))) : w.heap.size ≤ gb275)); have n3_ := Ak ((by rw [hg]; exact (below_size (by repeat (first | (with_reducible first | exact HB.out | apply below_alloc | apply pw_below_drewN | apply below_drew1) | exact HB.out))) : w.heap.size ≤ gb275)); clear HB; have HB := n0_; have BK275 := n1_; have GW275 := n2_; have GE275 := n3_; clear n0_ n1_ n2_ n3_; clear hb hbox hg; have hcz28_0 : w27.cell? ⟨gb275, 0, none⟩ = some (.int .i64 a0_0) := (blk_cell BK275.out 0).trans rfl; have hcz28_1 : w27.cell? ⟨gb275, 1, none⟩ = some (.int .i64 a0_1) := (blk_cell BK275.out 1).trans rfl; have hcz28_2 : w27.cell? ⟨gb275, 2, none⟩ = some (.int .i64 a0_2) := (blk_cell BK275.out 2).trans rfl; have hcz28_3 : w27.cell? ⟨gb275, 3, none⟩ = some (.int .i64 a0_3) := (blk_cell BK275.out 3).trans rfl; have hcz28_4 : w27.cell? ⟨gb275, 4, none⟩ = some (.int .i64 a0_4) := (blk_cell BK275.out 4).trans rfl; have hcz28_5 : w27.cell? ⟨gb275, 5, none⟩ = some (.string a0_5) := (blk_cell BK275.out 5).trans rfl; have hfz28_0 := blk_frozen BK275.out 0; have hfz28_1 := blk_frozen BK275.out 1; have hfz28_2 := blk_frozen BK275.out 2; have hfz28_3 := blk_frozen BK275.out 3; have hfz28_4 := blk_frozen BK275.out 4; have hfz28_5 := blk_frozen BK275.out 5) | ((with_reducible refine gate_callee (f := 71) rfl ?_); refine goesL_ (some 5) rfl rfl Try.func71 (by kernel_rfl) rfl #[.int .i64 a0_0] rfl (by (try simp only [List.map_toArray, List.map_cons, List.map_nil]); first | done | rfl | (simp only [List.length_drop, List.length_take]; rfl)) ?_; (with_reducible refine (spec_l4Who.calls a0_0 true _ A2.out).mono ?_); rintro e w' ⟨rfl, ⟨nd, rfl⟩⟩; refine ⟨_, rfl, ?_⟩) | (go_at_call 75; (with_reducible refine (spec_TextOk.calls k a0_5 true _ A24.out).mono ?_); rintro e w' ⟨rfl, ⟨nd, rfl⟩⟩))
            go_ret
            exact ⟨by first | rfl | (simp [errW_none, errW_some] <;> rfl) | (simp [*, errW_none, errW_some] <;> rfl), by repeat (first | (with_reducible first | exact HB.out | apply below_alloc | apply pw_below_drewN | apply below_drew1 | refine below_set ?_ GE275.out) | exact HB.out)⟩
           ·rw [if_neg c26] at H
            have c26b0 : (a0_5.toList == ([] : List UInt8)) = false := beq_eq_false_iff_ne.mpr c26
            have c26b1 : (a0_5.toList != ([] : List UInt8)) = true := bne_iff_ne.mpr c26
            obtain rfl := Option.some.inj H
            go_enter Try.func73, Try.ntmps73
            go_wp2_with (first | ((with_reducible refine gate_dst (N := 1) rfl ?_); (try (refine gate_guard (by rfl) ?_; dsimp only)); refine box_event ?hg (N := 1) ?hd (cs := #[.int .i64 a0_0, .int .i64 a0_1, .int .i64 a0_2, .int .i64 a0_3, .int .i64 a0_4, .string a0_5]) (t := 52) ?hr ?_; (case hd => rfl); (case hg => rfl); (case hr => first | (go_simp; done) | (go_simp; rfl)); intro gb275 hg w29 hbox hb; have n0_ := Ak (below_step (by repeat (first | (with_reducible first | exact HB.out | apply below_alloc | apply pw_below_drewN | apply below_drew1) | exact HB.out)) hb); have n1_ := Ak (hbox); have n2_ := Ak ((by rw [hg]; exact (below_size (by repeat (first | (with_reducible first | exact HB.out | apply below_alloc | apply pw_below_drewN | apply below_drew1) | exact HB.out))) : w.heap.size ≤ gb275)); have n3_ := Ak ((by rw [hg]; exact (below_size (by repeat (first | (with_reducible first | exact HB.out | apply below_alloc | apply pw_below_drewN | apply below_drew1) | exact HB.out))) : w.heap.size ≤ gb275)); clear HB; have HB := n0_; have BK275 := n1_; have GW275 := n2_; have GE275 := n3_; clear n0_ n1_ n2_ n3_; clear hb hbox hg; have hcz30_0 : w29.cell? ⟨gb275, 0, none⟩ = some (.int .i64 a0_0) := (blk_cell BK275.out 0).trans rfl; have hcz30_1 : w29.cell? ⟨gb275, 1, none⟩ = some (.int .i64 a0_1) := (blk_cell BK275.out 1).trans rfl; have hcz30_2 : w29.cell? ⟨gb275, 2, none⟩ = some (.int .i64 a0_2) := (blk_cell BK275.out 2).trans rfl; have hcz30_3 : w29.cell? ⟨gb275, 3, none⟩ = some (.int .i64 a0_3) := (blk_cell BK275.out 3).trans rfl; have hcz30_4 : w29.cell? ⟨gb275, 4, none⟩ = some (.int .i64 a0_4) := (blk_cell BK275.out 4).trans rfl; have hcz30_5 : w29.cell? ⟨gb275, 5, none⟩ = some (.string a0_5) := (blk_cell BK275.out 5).trans rfl; have hfz30_0 := blk_frozen BK275.out 0; have hfz30_1 := blk_frozen BK275.out 1; have hfz30_2 := blk_frozen BK275.out 2; have hfz30_3 := blk_frozen BK275.out 3; have hfz30_4 := blk_frozen BK275.out 4; have hfz30_5 := blk_frozen BK275.out 5) | ((with_reducible refine gate_callee (f := 71) rfl ?_); refine goesL_ (some 5) rfl rfl Try.func71 (by kernel_rfl) rfl #[.int .i64 a0_0] rfl (by (try simp only [List.map_toArray, List.map_cons, List.map_nil]); first | done | rfl | (simp only [List.length_drop, List.length_take]; rfl)) ?_; (with_reducible refine (spec_l4Who.calls a0_0 true _ A2.out).mono ?_); rintro e w' ⟨rfl, ⟨nd, rfl⟩⟩; refine ⟨_, rfl, ?_⟩) | (go_at_call 75; (with_reducible refine (spec_TextOk.calls k a0_5 true _ A24.out).mono ?_); rintro e w' ⟨rfl, ⟨nd, rfl⟩⟩))
            go_ret
            exact ⟨by first | rfl | (simp [errW_none, errW_some] <;> rfl) | (simp [*, errW_none, errW_some] <;> rfl), by repeat (first | (with_reducible first | exact HB.out | apply below_alloc | apply pw_below_drewN | apply below_drew1 | refine below_set ?_ GE275.out) | exact HB.out)⟩
          ·replace c25 := Bool.eq_false_iff.mpr c25
           subst c25
           have H1 : (some false) = some r := by rw [if_neg (show ¬ (false = true) by decide)] at H; exact H
           clear H
           have H := H1
           clear H1
           obtain rfl := Option.some.inj H
           go_enter Try.func73, Try.ntmps73
           go_wp2_with (first | ((with_reducible refine gate_dst (N := 1) rfl ?_); (try (refine gate_guard (by rfl) ?_; dsimp only)); refine box_event ?hg (N := 1) ?hd (cs := #[.int .i64 a0_0, .int .i64 a0_1, .int .i64 a0_2, .int .i64 a0_3, .int .i64 a0_4, .string a0_5]) (t := 52) ?hr ?_; (case hd => rfl); (case hg => rfl); (case hr => first | (go_simp; done) | (go_simp; rfl)); intro gb275 hg w31 hbox hb; have n0_ := Ak (below_step (by repeat (first | (with_reducible first | exact HB.out | apply below_alloc | apply pw_below_drewN | apply below_drew1) | exact HB.out)) hb); have n1_ := Ak (hbox); have n2_ := Ak ((by rw [hg]; exact (below_size (by repeat (first | (with_reducible first | exact HB.out | apply below_alloc | apply pw_below_drewN | apply below_drew1) | exact HB.out))) : w.heap.size ≤ gb275)); have n3_ := Ak ((by rw [hg]; exact (below_size (by repeat (first | (with_reducible first | exact HB.out | apply below_alloc | apply pw_below_drewN | apply below_drew1) | exact HB.out))) : w.heap.size ≤ gb275)); clear HB; have HB := n0_; have BK275 := n1_; have GW275 := n2_; have GE275 := n3_; clear n0_ n1_ n2_ n3_; clear hb hbox hg; have hcz32_0 : w31.cell? ⟨gb275, 0, none⟩ = some (.int .i64 a0_0) := (blk_cell BK275.out 0).trans rfl; have hcz32_1 : w31.cell? ⟨gb275, 1, none⟩ = some (.int .i64 a0_1) := (blk_cell BK275.out 1).trans rfl; have hcz32_2 : w31.cell? ⟨gb275, 2, none⟩ = some (.int .i64 a0_2) := (blk_cell BK275.out 2).trans rfl; have hcz32_3 : w31.cell? ⟨gb275, 3, none⟩ = some (.int .i64 a0_3) := (blk_cell BK275.out 3).trans rfl; have hcz32_4 : w31.cell? ⟨gb275, 4, none⟩ = some (.int .i64 a0_4) := (blk_cell BK275.out 4).trans rfl; have hcz32_5 : w31.cell? ⟨gb275, 5, none⟩ = some (.string a0_5) := (blk_cell BK275.out 5).trans rfl; have hfz32_0 := blk_frozen BK275.out 0; have hfz32_1 := blk_frozen BK275.out 1; have hfz32_2 := blk_frozen BK275.out 2; have hfz32_3 := blk_frozen BK275.out 3; have hfz32_4 := blk_frozen BK275.out 4; have hfz32_5 := blk_frozen BK275.out 5) | ((with_reducible refine gate_callee (f := 71) rfl ?_); refine goesL_ (some 5) rfl rfl Try.func71 (by kernel_rfl) rfl #[.int .i64 a0_0] rfl (by (try simp only [List.map_toArray, List.map_cons, List.map_nil]); first | done | rfl | (simp only [List.length_drop, List.length_take]; rfl)) ?_; (with_reducible refine (spec_l4Who.calls a0_0 true _ A2.out).mono ?_); rintro e w' ⟨rfl, ⟨nd, rfl⟩⟩; refine ⟨_, rfl, ?_⟩) | (go_at_call 75; (with_reducible refine (spec_TextOk.calls k a0_5 false _ A24.out).mono ?_); rintro e w' ⟨rfl, ⟨nd, rfl⟩⟩))
           go_ret
           exact ⟨by first | rfl | (simp [errW_none, errW_some] <;> rfl) | (simp [*, errW_none, errW_some] <;> rfl), by repeat (first | (with_reducible first | exact HB.out | apply below_alloc | apply pw_below_drewN | apply below_drew1 | refine below_set ?_ GE275.out) | exact HB.out)⟩
         ·rw [if_neg c23] at H
          have c23b0 : decide (a0_4 ≤ 48) = false := decide_eq_false c23
          clear c23
          obtain rfl := Option.some.inj H
          go_enter Try.func73, Try.ntmps73
          go_wp2_with (first | ((with_reducible refine gate_dst (N := 1) rfl ?_); (try (refine gate_guard (by rfl) ?_; dsimp only)); refine box_event ?hg (N := 1) ?hd (cs := #[.int .i64 a0_0, .int .i64 a0_1, .int .i64 a0_2, .int .i64 a0_3, .int .i64 a0_4, .string a0_5]) (t := 52) ?hr ?_; (case hd => rfl); (case hg => rfl); (case hr => first | (go_simp; done) | (go_simp; rfl)); intro gb275 hg w33 hbox hb; have n0_ := Ak (below_step (by repeat (first | (with_reducible first | exact HB.out | apply below_alloc | apply pw_below_drewN | apply below_drew1) | exact HB.out)) hb); have n1_ := Ak (hbox); have n2_ := Ak ((by rw [hg]; exact (below_size (by repeat (first | (with_reducible first | exact HB.out | apply below_alloc | apply pw_below_drewN | apply below_drew1) | exact HB.out))) : w.heap.size ≤ gb275)); have n3_ := Ak ((by rw [hg]; exact (below_size (by repeat (first | (with_reducible first | exact HB.out | apply below_alloc | apply pw_below_drewN | apply below_drew1) | exact HB.out))) : w.heap.size ≤ gb275)); clear HB; have HB := n0_; have BK275 := n1_; have GW275 := n2_; have GE275 := n3_; clear n0_ n1_ n2_ n3_; clear hb hbox hg; have hcz34_0 : w33.cell? ⟨gb275, 0, none⟩ = some (.int .i64 a0_0) := (blk_cell BK275.out 0).trans rfl; have hcz34_1 : w33.cell? ⟨gb275, 1, none⟩ = some (.int .i64 a0_1) := (blk_cell BK275.out 1).trans rfl; have hcz34_2 : w33.cell? ⟨gb275, 2, none⟩ = some (.int .i64 a0_2) := (blk_cell BK275.out 2).trans rfl; have hcz34_3 : w33.cell? ⟨gb275, 3, none⟩ = some (.int .i64 a0_3) := (blk_cell BK275.out 3).trans rfl; have hcz34_4 : w33.cell? ⟨gb275, 4, none⟩ = some (.int .i64 a0_4) := (blk_cell BK275.out 4).trans rfl; have hcz34_5 : w33.cell? ⟨gb275, 5, none⟩ = some (.string a0_5) := (blk_cell BK275.out 5).trans rfl; have hfz34_0 := blk_frozen BK275.out 0; have hfz34_1 := blk_frozen BK275.out 1; have hfz34_2 := blk_frozen BK275.out 2; have hfz34_3 := blk_frozen BK275.out 3; have hfz34_4 := blk_frozen BK275.out 4; have hfz34_5 := blk_frozen BK275.out 5) | ((with_reducible refine gate_callee (f := 71) rfl ?_); refine goesL_ (some 5) rfl rfl Try.func71 (by kernel_rfl) rfl #[.int .i64 a0_0] rfl (by (try simp only [List.map_toArray, List.map_cons, List.map_nil]); first | done | rfl | (simp only [List.length_drop, List.length_take]; rfl)) ?_; (with_reducible refine (spec_l4Who.calls a0_0 true _ A2.out).mono ?_); rintro e w' ⟨rfl, ⟨nd, rfl⟩⟩; refine ⟨_, rfl, ?_⟩))
          go_ret
          exact ⟨by first | rfl | (simp [errW_none, errW_some] <;> rfl) | (simp [*, errW_none, errW_some] <;> rfl), by repeat (first | (with_reducible first | exact HB.out | apply below_alloc | apply pw_below_drewN | apply below_drew1 | refine below_set ?_ GE275.out) | exact HB.out)⟩
        ·rw [if_neg c22] at H
         have c22b0 : decide (0 ≤ a0_4) = false := decide_eq_false c22
         clear c22
         obtain rfl := Option.some.inj H
         go_enter Try.func73, Try.ntmps73
         go_wp2_with (first | ((with_reducible refine gate_dst (N := 1) rfl ?_); (try (refine gate_guard (by rfl) ?_; dsimp only)); refine box_event ?hg (N := 1) ?hd (cs := #[.int .i64 a0_0, .int .i64 a0_1, .int .i64 a0_2, .int .i64 a0_3, .int .i64 a0_4, .string a0_5]) (t := 52) ?hr ?_; (case hd => rfl); (case hg => rfl); (case hr => first | (go_simp; done) | (go_simp; rfl)); intro gb275 hg w35 hbox hb; have n0_ := Ak (below_step (by repeat (first | (with_reducible first | exact HB.out | apply below_alloc | apply pw_below_drewN | apply below_drew1) | exact HB.out)) hb); have n1_ := Ak (hbox); have n2_ := Ak ((by rw [hg]; exact (below_size (by repeat (first | (with_reducible first | exact HB.out | apply below_alloc | apply pw_below_drewN | apply below_drew1) | exact HB.out))) : w.heap.size ≤ gb275)); have n3_ := Ak ((by rw [hg]; exact (below_size (by repeat (first | (with_reducible first | exact HB.out | apply below_alloc | apply pw_below_drewN | apply below_drew1) | exact HB.out))) : w.heap.size ≤ gb275)); clear HB; have HB := n0_; have BK275 := n1_; have GW275 := n2_; have GE275 := n3_; clear n0_ n1_ n2_ n3_; clear hb hbox hg; have hcz36_0 : w35.cell? ⟨gb275, 0, none⟩ = some (.int .i64 a0_0) := (blk_cell BK275.out 0).trans rfl; have hcz36_1 : w35.cell? ⟨gb275, 1, none⟩ = some (.int .i64 a0_1) := (blk_cell BK275.out 1).trans rfl; have hcz36_2 : w35.cell? ⟨gb275, 2, none⟩ = some (.int .i64 a0_2) := (blk_cell BK275.out 2).trans rfl; have hcz36_3 : w35.cell? ⟨gb275, 3, none⟩ = some (.int .i64 a0_3) := (blk_cell BK275.out 3).trans rfl; have hcz36_4 : w35.cell? ⟨gb275, 4, none⟩ = some (.int .i64 a0_4) := (blk_cell BK275.out 4).trans rfl; have hcz36_5 : w35.cell? ⟨gb275, 5, none⟩ = some (.string a0_5) := (blk_cell BK275.out 5).trans rfl; have hfz36_0 := blk_frozen BK275.out 0; have hfz36_1 := blk_frozen BK275.out 1; have hfz36_2 := blk_frozen BK275.out 2; have hfz36_3 := blk_frozen BK275.out 3; have hfz36_4 := blk_frozen BK275.out 4; have hfz36_5 := blk_frozen BK275.out 5) | ((with_reducible refine gate_callee (f := 71) rfl ?_); refine goesL_ (some 5) rfl rfl Try.func71 (by kernel_rfl) rfl #[.int .i64 a0_0] rfl (by (try simp only [List.map_toArray, List.map_cons, List.map_nil]); first | done | rfl | (simp only [List.length_drop, List.length_take]; rfl)) ?_; (with_reducible refine (spec_l4Who.calls a0_0 true _ A2.out).mono ?_); rintro e w' ⟨rfl, ⟨nd, rfl⟩⟩; refine ⟨_, rfl, ?_⟩))
         go_ret
         exact ⟨by first | rfl | (simp [errW_none, errW_some] <;> rfl) | (simp [*, errW_none, errW_some] <;> rfl), by repeat (first | (with_reducible first | exact HB.out | apply below_alloc | apply pw_below_drewN | apply below_drew1 | refine below_set ?_ GE275.out) | exact HB.out)⟩
 ·replace c3 := Bool.eq_false_iff.mpr c3
  subst c3
  have H1 : (some false) = some r := by rw [if_neg (show ¬ (false = true) by decide)] at H; exact H
  clear H
  have H := H1
  clear H1
  obtain rfl := Option.some.inj H
  go_enter Try.func73, Try.ntmps73
  go_wp2_with (first | ((with_reducible refine gate_dst (N := 1) rfl ?_); (try (refine gate_guard (by rfl) ?_; dsimp only)); refine box_event ?hg (N := 1) ?hd (cs := #[.int .i64 a0_0, .int .i64 a0_1, .int .i64 a0_2, .int .i64 a0_3, .int .i64 a0_4, .string a0_5]) (t := 52) ?hr ?_; (case hd => rfl); (case hg => rfl); (case hr => first | (go_simp; done) | (go_simp; rfl)); intro gb275 hg w37 hbox hb; have n0_ := Ak (below_step (by repeat (first | (with_reducible first | exact HB.out | apply below_alloc | apply pw_below_drewN | apply below_drew1) | exact HB.out)) hb); have n1_ := Ak (hbox); have n2_ := Ak ((by rw [hg]; exact (below_size (by repeat (first | (with_reducible first | exact HB.out | apply below_alloc | apply pw_below_drewN | apply below_drew1) | exact HB.out))) : w.heap.size ≤ gb275)); have n3_ := Ak ((by rw [hg]; exact (below_size (by repeat (first | (with_reducible first | exact HB.out | apply below_alloc | apply pw_below_drewN | apply below_drew1) | exact HB.out))) : w.heap.size ≤ gb275)); clear HB; have HB := n0_; have BK275 := n1_; have GW275 := n2_; have GE275 := n3_; clear n0_ n1_ n2_ n3_; clear hb hbox hg; have hcz38_0 : w37.cell? ⟨gb275, 0, none⟩ = some (.int .i64 a0_0) := (blk_cell BK275.out 0).trans rfl; have hcz38_1 : w37.cell? ⟨gb275, 1, none⟩ = some (.int .i64 a0_1) := (blk_cell BK275.out 1).trans rfl; have hcz38_2 : w37.cell? ⟨gb275, 2, none⟩ = some (.int .i64 a0_2) := (blk_cell BK275.out 2).trans rfl; have hcz38_3 : w37.cell? ⟨gb275, 3, none⟩ = some (.int .i64 a0_3) := (blk_cell BK275.out 3).trans rfl; have hcz38_4 : w37.cell? ⟨gb275, 4, none⟩ = some (.int .i64 a0_4) := (blk_cell BK275.out 4).trans rfl; have hcz38_5 : w37.cell? ⟨gb275, 5, none⟩ = some (.string a0_5) := (blk_cell BK275.out 5).trans rfl; have hfz38_0 := blk_frozen BK275.out 0; have hfz38_1 := blk_frozen BK275.out 1; have hfz38_2 := blk_frozen BK275.out 2; have hfz38_3 := blk_frozen BK275.out 3; have hfz38_4 := blk_frozen BK275.out 4; have hfz38_5 := blk_frozen BK275.out 5) | ((with_reducible refine gate_callee (f := 71) rfl ?_); refine goesL_ (some 5) rfl rfl Try.func71 (by kernel_rfl) rfl #[.int .i64 a0_0] rfl (by (try simp only [List.map_toArray, List.map_cons, List.map_nil]); first | done | rfl | (simp only [List.length_drop, List.length_take]; rfl)) ?_; (with_reducible refine (spec_l4Who.calls a0_0 false _ A2.out).mono ?_); rintro e w' ⟨rfl, ⟨nd, rfl⟩⟩; refine ⟨_, rfl, ?_⟩))
  go_ret
  exact ⟨by first | rfl | (simp [errW_none, errW_some] <;> rfl) | (simp [*, errW_none, errW_some] <;> rfl), by repeat (first | (with_reducible first | exact HB.out | apply below_alloc | apply pw_below_drewN | apply below_drew1 | refine below_set ?_ GE275.out) | exact HB.out)⟩
def impl_formed.f (k : Nat) (a0_0 : Int) (a0_1 : Int) (a0_2 : Int) (a0_3 : Int) (a0_4 : Int) (a0_5 : ByteArray) : Option (Bool) := (impl_TextWrite.f k (⟨#[]⟩ : ByteArray) a0_4 a0_5).bind fun bt628 => ((impl_client.f a0_0).bind fun t630 => (if t630 = true then (if a0_1 ≥ 0 then (if a0_1 ≤ 100 then (if a0_2 ≥ 1 then (if a0_2 ≤ 1000 then (if a0_3 ≥ 0 then (if a0_3 < 3 then (some bt628.2) else (some false)) else (some false)) else (some false)) else (some false)) else (some false)) else (some false)) else (some false)))
set_option maxHeartbeats 8000000 in
set_option maxRecDepth 100000 in
theorem impl_formed.calls (k : Nat) (a0_0 : Int) (a0_1 : Int) (a0_2 : Int) (a0_3 : Int) (a0_4 : Int) (a0_5 : ByteArray) (r : Bool) (w : World) (h : impl_formed.f k a0_0 a0_1 a0_2 a0_3 a0_4 a0_5 = some r) :
  Calls Try.prog 68 #[.agg #[.int .i64 a0_0, .int .i64 a0_1, .int .i64 a0_2, .int .i64 a0_3, .int .i64 a0_4, .string a0_5]] w fun e w' => e = .returned (.bool r) ∧ Below w.heap.size w w' := by
 have hu52 := Try.underlying52
 have HB := Ak (Below.refl w.heap.size w)
 have H : ((impl_TextWrite.f k (⟨#[]⟩ : ByteArray) a0_4 a0_5).bind fun bt628 => ((impl_client.f a0_0).bind fun t630 => (if t630 = true then (if a0_1 ≥ 0 then (if a0_1 ≤ 100 then (if a0_2 ≥ 1 then (if a0_2 ≤ 1000 then (if a0_3 ≥ 0 then (if a0_3 < 3 then (some bt628.2) else (some false)) else (some false)) else (some false)) else (some false)) else (some false)) else (some false)) else (some false)))) = some r := h
 clear h
 replace H := Option.bind_eq_some_iff.mp H
 obtain ⟨⟨t628, t629⟩, A20, H⟩ := H
 replace H : ((impl_client.f a0_0).bind fun t630 => (if t630 = true then (if a0_1 ≥ 0 then (if a0_1 ≤ 100 then (if a0_2 ≥ 1 then (if a0_2 ≤ 1000 then (if a0_3 ≥ 0 then (if a0_3 < 3 then (some t629) else (some false)) else (some false)) else (some false)) else (some false)) else (some false)) else (some false)) else (some false))) = some r := H
 have A2 := Ak A20
 clear A20
 replace H := Option.bind_eq_some_iff.mp H
 obtain ⟨t630, A30, H⟩ := H
 replace H : (if t630 = true then (if a0_1 ≥ 0 then (if a0_1 ≤ 100 then (if a0_2 ≥ 1 then (if a0_2 ≤ 1000 then (if a0_3 ≥ 0 then (if a0_3 < 3 then (some t629) else (some false)) else (some false)) else (some false)) else (some false)) else (some false)) else (some false)) else (some false)) = some r := H
 have A3 := Ak A30
 clear A30
 by_cases c4 : t630 = true
 ·subst c4
  have H1 : (if a0_1 ≥ 0 then (if a0_1 ≤ 100 then (if a0_2 ≥ 1 then (if a0_2 ≤ 1000 then (if a0_3 ≥ 0 then (if a0_3 < 3 then (some t629) else (some false)) else (some false)) else (some false)) else (some false)) else (some false)) else (some false)) = some r := by rw [if_pos rfl] at H; exact H
  clear H
  have H := H1
  clear H1
  by_cases c5 : a0_1 ≥ 0
  ·rw [if_pos c5] at H
   have c5b0 : decide (0 ≤ a0_1) = true := decide_eq_true c5
   clear c5
   by_cases c6 : a0_1 ≤ 100
   ·rw [if_pos c6] at H
    have c6b0 : decide (a0_1 ≤ 100) = true := decide_eq_true c6
    clear c6
    by_cases c7 : a0_2 ≥ 1
    ·rw [if_pos c7] at H
     have c7b0 : decide (1 ≤ a0_2) = true := decide_eq_true c7
     clear c7
     by_cases c8 : a0_2 ≤ 1000
     ·rw [if_pos c8] at H
      have c8b0 : decide (a0_2 ≤ 1000) = true := decide_eq_true c8
      clear c8
      by_cases c9 : a0_3 ≥ 0
      ·rw [if_pos c9] at H
       have c9b0 : decide (0 ≤ a0_3) = true := decide_eq_true c9
       clear c9
       by_cases c10 : a0_3 < 3
       ·rw [if_pos c10] at H
        have c10b0 : decide (a0_3 < 3) = true := decide_eq_true c10
        clear c10
        obtain rfl := Option.some.inj H
        go_enter Try.func68, Try.ntmps68
        go_wp2_with (first | ((with_reducible refine gate_dst (N := 1) rfl ?_); refine box_event ?hg (N := 1) ?hd (cs := #[.int .i64 a0_0, .int .i64 a0_1, .int .i64 a0_2, .int .i64 a0_3, .int .i64 a0_4, .string a0_5]) (t := 52) ?hr ?_; (case hd => rfl); (case hg => rfl); (case hr => first | (go_simp; done) | (go_simp; rfl)); intro gb627 hg w11 hbox hb; have n0_ := Ak (below_step (by repeat (first | (with_reducible first | exact HB.out | apply below_alloc | apply pw_below_drewN | apply below_drew1) | exact HB.out)) hb); have n1_ := Ak (hbox); have n2_ := Ak ((by rw [hg]; exact (below_size (by repeat (first | (with_reducible first | exact HB.out | apply below_alloc | apply pw_below_drewN | apply below_drew1) | exact HB.out))) : w.heap.size ≤ gb627)); have n3_ := Ak ((by rw [hg]; exact (below_size (by repeat (first | (with_reducible first | exact HB.out | apply below_alloc | apply pw_below_drewN | apply below_drew1) | exact HB.out))) : w.heap.size ≤ gb627)); clear HB; have HB := n0_; have BK627 := n1_; have GW627 := n2_; have GE627 := n3_; clear n0_ n1_ n2_ n3_; clear hb hbox hg; have hcz12_0 : w11.cell? ⟨gb627, 0, none⟩ = some (.int .i64 a0_0) := (blk_cell BK627.out 0).trans rfl; have hcz12_1 : w11.cell? ⟨gb627, 1, none⟩ = some (.int .i64 a0_1) := (blk_cell BK627.out 1).trans rfl; have hcz12_2 : w11.cell? ⟨gb627, 2, none⟩ = some (.int .i64 a0_2) := (blk_cell BK627.out 2).trans rfl; have hcz12_3 : w11.cell? ⟨gb627, 3, none⟩ = some (.int .i64 a0_3) := (blk_cell BK627.out 3).trans rfl; have hcz12_4 : w11.cell? ⟨gb627, 4, none⟩ = some (.int .i64 a0_4) := (blk_cell BK627.out 4).trans rfl; have hcz12_5 : w11.cell? ⟨gb627, 5, none⟩ = some (.string a0_5) := (blk_cell BK627.out 5).trans rfl; have hfz12_0 := blk_frozen BK627.out 0; have hfz12_1 := blk_frozen BK627.out 1; have hfz12_2 := blk_frozen BK627.out 2; have hfz12_3 := blk_frozen BK627.out 3; have hfz12_4 := blk_frozen BK627.out 4; have hfz12_5 := blk_frozen BK627.out 5) | ((with_reducible refine gate_callee (f := 41) rfl ?_); refine goesL_ (some 10) rfl rfl Try.func41 (by kernel_rfl) rfl #[.string (⟨#[]⟩ : ByteArray), .int .i64 a0_4, .string a0_5] rfl (by (try simp only [List.map_toArray, List.map_cons, List.map_nil]); first | done | rfl | (simp only [List.length_drop, List.length_take]; rfl)) ?_; (with_reducible refine (impl_TextWrite.calls k (⟨#[]⟩ : ByteArray) a0_4 a0_5 t628 t629 _ A2.out).mono ?_); rintro e w13 ⟨rfl, hb⟩; refine ⟨_, rfl, ?_⟩; have n0_ := Ak (blk_below (g := gb627) (o := .cells #[.int .i64 a0_0, .int .i64 a0_1, .int .i64 a0_2, .int .i64 a0_3, .int .i64 a0_4, .string a0_5] 52 (0, 0)) (by (with_reducible repeat (first | refine blk_drewN ?_ _ | refine blk_drew ?_ | refine blk_alloc ?_ _)); exact BK627.out) hb); have n1_ := Ak (below_step (by repeat (first | (with_reducible first | exact HB.out | apply below_alloc | apply pw_below_drewN | apply below_drew1 | refine below_set ?_ GE627.out) | exact HB.out)) hb); clear BK627; clear HB; have BK627 := n0_; have HB := n1_; clear n0_ n1_; (try clear hb); (try clear hb2); (try clear hk); (try clear hi); have hcz14_0 : w13.cell? ⟨gb627, 0, none⟩ = some (.int .i64 a0_0) := (blk_cell BK627.out 0).trans rfl; have hcz14_1 : w13.cell? ⟨gb627, 1, none⟩ = some (.int .i64 a0_1) := (blk_cell BK627.out 1).trans rfl; have hcz14_2 : w13.cell? ⟨gb627, 2, none⟩ = some (.int .i64 a0_2) := (blk_cell BK627.out 2).trans rfl; have hcz14_3 : w13.cell? ⟨gb627, 3, none⟩ = some (.int .i64 a0_3) := (blk_cell BK627.out 3).trans rfl; have hcz14_4 : w13.cell? ⟨gb627, 4, none⟩ = some (.int .i64 a0_4) := (blk_cell BK627.out 4).trans rfl; have hcz14_5 : w13.cell? ⟨gb627, 5, none⟩ = some (.string a0_5) := (blk_cell BK627.out 5).trans rfl; have hfz14_0 := blk_frozen BK627.out 0; have hfz14_1 := blk_frozen BK627.out 1; have hfz14_2 := blk_frozen BK627.out 2; have hfz14_3 := blk_frozen BK627.out 3; have hfz14_4 := blk_frozen BK627.out 4; have hfz14_5 := blk_frozen BK627.out 5) | ((with_reducible refine gate_callee (f := 58) rfl ?_); refine goesL_ (some 15) rfl rfl Try.func58 (by kernel_rfl) rfl #[.int .i64 a0_0] rfl (by (try simp only [List.map_toArray, List.map_cons, List.map_nil]); first | done | rfl | (simp only [List.length_drop, List.length_take]; rfl)) ?_; (with_reducible refine (impl_client.calls a0_0 true _ A3.out).mono ?_); rintro e w' ⟨rfl, ⟨nd, rfl⟩⟩; refine ⟨_, rfl, ?_⟩))
        go_ret
        exact ⟨by first | rfl | (simp [errW_none, errW_some] <;> rfl) | (simp [*, errW_none, errW_some] <;> rfl), by repeat (first | (with_reducible first | exact HB.out | apply below_alloc | apply pw_below_drewN | apply below_drew1 | refine below_set ?_ GE627.out) | exact HB.out)⟩
       ·rw [if_neg c10] at H
        have c10b0 : decide (a0_3 < 3) = false := decide_eq_false c10
        clear c10
        obtain rfl := Option.some.inj H
        go_enter Try.func68, Try.ntmps68
        go_wp2_with (first | ((with_reducible refine gate_dst (N := 1) rfl ?_); refine box_event ?hg (N := 1) ?hd (cs := #[.int .i64 a0_0, .int .i64 a0_1, .int .i64 a0_2, .int .i64 a0_3, .int .i64 a0_4, .string a0_5]) (t := 52) ?hr ?_; (case hd => rfl); (case hg => rfl); (case hr => first | (go_simp; done) | (go_simp; rfl)); intro gb627 hg w15 hbox hb; have n0_ := Ak (below_step (by repeat (first | (with_reducible first | exact HB.out | apply below_alloc | apply pw_below_drewN | apply below_drew1) | exact HB.out)) hb); have n1_ := Ak (hbox); have n2_ := Ak ((by rw [hg]; exact (below_size (by repeat (first | (with_reducible first | exact HB.out | apply below_alloc | apply pw_below_drewN | apply below_drew1) | exact HB.out))) : w.heap.size ≤ gb627)); have n3_ := Ak ((by rw [hg]; exact (below_size (by repeat (first | (with_reducible first | exact HB.out | apply below_alloc | apply pw_below_drewN | apply below_drew1) | exact HB.out))) : w.heap.size ≤ gb627)); clear HB; have HB := n0_; have BK627 := n1_; have GW627 := n2_; have GE627 := n3_; clear n0_ n1_ n2_ n3_; clear hb hbox hg; have hcz16_0 : w15.cell? ⟨gb627, 0, none⟩ = some (.int .i64 a0_0) := (blk_cell BK627.out 0).trans rfl; have hcz16_1 : w15.cell? ⟨gb627, 1, none⟩ = some (.int .i64 a0_1) := (blk_cell BK627.out 1).trans rfl; have hcz16_2 : w15.cell? ⟨gb627, 2, none⟩ = some (.int .i64 a0_2) := (blk_cell BK627.out 2).trans rfl; have hcz16_3 : w15.cell? ⟨gb627, 3, none⟩ = some (.int .i64 a0_3) := (blk_cell BK627.out 3).trans rfl; have hcz16_4 : w15.cell? ⟨gb627, 4, none⟩ = some (.int .i64 a0_4) := (blk_cell BK627.out 4).trans rfl; have hcz16_5 : w15.cell? ⟨gb627, 5, none⟩ = some (.string a0_5) := (blk_cell BK627.out 5).trans rfl; have hfz16_0 := blk_frozen BK627.out 0; have hfz16_1 := blk_frozen BK627.out 1; have hfz16_2 := blk_frozen BK627.out 2; have hfz16_3 := blk_frozen BK627.out 3; have hfz16_4 := blk_frozen BK627.out 4; have hfz16_5 := blk_frozen BK627.out 5) | ((with_reducible refine gate_callee (f := 41) rfl ?_); refine goesL_ (some 10) rfl rfl Try.func41 (by kernel_rfl) rfl #[.string (⟨#[]⟩ : ByteArray), .int .i64 a0_4, .string a0_5] rfl (by (try simp only [List.map_toArray, List.map_cons, List.map_nil]); first | done | rfl | (simp only [List.length_drop, List.length_take]; rfl)) ?_; (with_reducible refine (impl_TextWrite.calls k (⟨#[]⟩ : ByteArray) a0_4 a0_5 t628 t629 _ A2.out).mono ?_); rintro e w17 ⟨rfl, hb⟩; refine ⟨_, rfl, ?_⟩; have n0_ := Ak (blk_below (g := gb627) (o := .cells #[.int .i64 a0_0, .int .i64 a0_1, .int .i64 a0_2, .int .i64 a0_3, .int .i64 a0_4, .string a0_5] 52 (0, 0)) (by (with_reducible repeat (first | refine blk_drewN ?_ _ | refine blk_drew ?_ | refine blk_alloc ?_ _)); exact BK627.out) hb); have n1_ := Ak (below_step (by repeat (first | (with_reducible first | exact HB.out | apply below_alloc | apply pw_below_drewN | apply below_drew1 | refine below_set ?_ GE627.out) | exact HB.out)) hb); clear BK627; clear HB; have BK627 := n0_; have HB := n1_; clear n0_ n1_; (try clear hb); (try clear hb2); (try clear hk); (try clear hi); have hcz18_0 : w17.cell? ⟨gb627, 0, none⟩ = some (.int .i64 a0_0) := (blk_cell BK627.out 0).trans rfl; have hcz18_1 : w17.cell? ⟨gb627, 1, none⟩ = some (.int .i64 a0_1) := (blk_cell BK627.out 1).trans rfl; have hcz18_2 : w17.cell? ⟨gb627, 2, none⟩ = some (.int .i64 a0_2) := (blk_cell BK627.out 2).trans rfl; have hcz18_3 : w17.cell? ⟨gb627, 3, none⟩ = some (.int .i64 a0_3) := (blk_cell BK627.out 3).trans rfl; have hcz18_4 : w17.cell? ⟨gb627, 4, none⟩ = some (.int .i64 a0_4) := (blk_cell BK627.out 4).trans rfl; have hcz18_5 : w17.cell? ⟨gb627, 5, none⟩ = some (.string a0_5) := (blk_cell BK627.out 5).trans rfl; have hfz18_0 := blk_frozen BK627.out 0; have hfz18_1 := blk_frozen BK627.out 1; have hfz18_2 := blk_frozen BK627.out 2; have hfz18_3 := blk_frozen BK627.out 3; have hfz18_4 := blk_frozen BK627.out 4; have hfz18_5 := blk_frozen BK627.out 5) | ((with_reducible refine gate_callee (f := 58) rfl ?_); refine goesL_ (some 15) rfl rfl Try.func58 (by kernel_rfl) rfl #[.int .i64 a0_0] rfl (by (try simp only [List.map_toArray, List.map_cons, List.map_nil]); first | done | rfl | (simp only [List.length_drop, List.length_take]; rfl)) ?_; (with_reducible refine (impl_client.calls a0_0 true _ A3.out).mono ?_); rintro e w' ⟨rfl, ⟨nd, rfl⟩⟩; refine ⟨_, rfl, ?_⟩))
        go_ret
        exact ⟨by first | rfl | (simp [errW_none, errW_some] <;> rfl) | (simp [*, errW_none, errW_some] <;> rfl), by repeat (first | (with_reducible first | exact HB.out | apply below_alloc | apply pw_below_drewN | apply below_drew1 | refine below_set ?_ GE627.out) | exact HB.out)⟩
      ·rw [if_neg c9] at H
       have c9b0 : decide (0 ≤ a0_3) = false := decide_eq_false c9
       clear c9
       obtain rfl := Option.some.inj H
       go_enter Try.func68, Try.ntmps68
       go_wp2_with (first | ((with_reducible refine gate_dst (N := 1) rfl ?_); refine box_event ?hg (N := 1) ?hd (cs := #[.int .i64 a0_0, .int .i64 a0_1, .int .i64 a0_2, .int .i64 a0_3, .int .i64 a0_4, .string a0_5]) (t := 52) ?hr ?_; (case hd => rfl); (case hg => rfl); (case hr => first | (go_simp; done) | (go_simp; rfl)); intro gb627 hg w19 hbox hb; have n0_ := Ak (below_step (by repeat (first | (with_reducible first | exact HB.out | apply below_alloc | apply pw_below_drewN | apply below_drew1) | exact HB.out)) hb); have n1_ := Ak (hbox); have n2_ := Ak ((by rw [hg]; exact (below_size (by repeat (first | (with_reducible first | exact HB.out | apply below_alloc | apply pw_below_drewN | apply below_drew1) | exact HB.out))) : w.heap.size ≤ gb627)); have n3_ := Ak ((by rw [hg]; exact (below_size (by repeat (first | (with_reducible first | exact HB.out | apply below_alloc | apply pw_below_drewN | apply below_drew1) | exact HB.out))) : w.heap.size ≤ gb627)); clear HB; have HB := n0_; have BK627 := n1_; have GW627 := n2_; have GE627 := n3_; clear n0_ n1_ n2_ n3_; clear hb hbox hg; have hcz20_0 : w19.cell? ⟨gb627, 0, none⟩ = some (.int .i64 a0_0) := (blk_cell BK627.out 0).trans rfl; have hcz20_1 : w19.cell? ⟨gb627, 1, none⟩ = some (.int .i64 a0_1) := (blk_cell BK627.out 1).trans rfl; have hcz20_2 : w19.cell? ⟨gb627, 2, none⟩ = some (.int .i64 a0_2) := (blk_cell BK627.out 2).trans rfl; have hcz20_3 : w19.cell? ⟨gb627, 3, none⟩ = some (.int .i64 a0_3) := (blk_cell BK627.out 3).trans rfl; have hcz20_4 : w19.cell? ⟨gb627, 4, none⟩ = some (.int .i64 a0_4) := (blk_cell BK627.out 4).trans rfl; have hcz20_5 : w19.cell? ⟨gb627, 5, none⟩ = some (.string a0_5) := (blk_cell BK627.out 5).trans rfl; have hfz20_0 := blk_frozen BK627.out 0; have hfz20_1 := blk_frozen BK627.out 1; have hfz20_2 := blk_frozen BK627.out 2; have hfz20_3 := blk_frozen BK627.out 3; have hfz20_4 := blk_frozen BK627.out 4; have hfz20_5 := blk_frozen BK627.out 5) | ((with_reducible refine gate_callee (f := 41) rfl ?_); refine goesL_ (some 10) rfl rfl Try.func41 (by kernel_rfl) rfl #[.string (⟨#[]⟩ : ByteArray), .int .i64 a0_4, .string a0_5] rfl (by (try simp only [List.map_toArray, List.map_cons, List.map_nil]); first | done | rfl | (simp only [List.length_drop, List.length_take]; rfl)) ?_; (with_reducible refine (impl_TextWrite.calls k (⟨#[]⟩ : ByteArray) a0_4 a0_5 t628 t629 _ A2.out).mono ?_); rintro e w21 ⟨rfl, hb⟩; refine ⟨_, rfl, ?_⟩; have n0_ := Ak (blk_below (g := gb627) (o := .cells #[.int .i64 a0_0, .int .i64 a0_1, .int .i64 a0_2, .int .i64 a0_3, .int .i64 a0_4, .string a0_5] 52 (0, 0)) (by (with_reducible repeat (first | refine blk_drewN ?_ _ | refine blk_drew ?_ | refine blk_alloc ?_ _)); exact BK627.out) hb); have n1_ := Ak (below_step (by repeat (first | (with_reducible first | exact HB.out | apply below_alloc | apply pw_below_drewN | apply below_drew1 | refine below_set ?_ GE627.out) | exact HB.out)) hb); clear BK627; clear HB; have BK627 := n0_; have HB := n1_; clear n0_ n1_; (try clear hb); (try clear hb2); (try clear hk); (try clear hi); have hcz22_0 : w21.cell? ⟨gb627, 0, none⟩ = some (.int .i64 a0_0) := (blk_cell BK627.out 0).trans rfl; have hcz22_1 : w21.cell? ⟨gb627, 1, none⟩ = some (.int .i64 a0_1) := (blk_cell BK627.out 1).trans rfl; have hcz22_2 : w21.cell? ⟨gb627, 2, none⟩ = some (.int .i64 a0_2) := (blk_cell BK627.out 2).trans rfl; have hcz22_3 : w21.cell? ⟨gb627, 3, none⟩ = some (.int .i64 a0_3) := (blk_cell BK627.out 3).trans rfl; have hcz22_4 : w21.cell? ⟨gb627, 4, none⟩ = some (.int .i64 a0_4) := (blk_cell BK627.out 4).trans rfl; have hcz22_5 : w21.cell? ⟨gb627, 5, none⟩ = some (.string a0_5) := (blk_cell BK627.out 5).trans rfl; have hfz22_0 := blk_frozen BK627.out 0; have hfz22_1 := blk_frozen BK627.out 1; have hfz22_2 := blk_frozen BK627.out 2; have hfz22_3 := blk_frozen BK627.out 3; have hfz22_4 := blk_frozen BK627.out 4; have hfz22_5 := blk_frozen BK627.out 5) | ((with_reducible refine gate_callee (f := 58) rfl ?_); refine goesL_ (some 15) rfl rfl Try.func58 (by kernel_rfl) rfl #[.int .i64 a0_0] rfl (by (try simp only [List.map_toArray, List.map_cons, List.map_nil]); first | done | rfl | (simp only [List.length_drop, List.length_take]; rfl)) ?_; (with_reducible refine (impl_client.calls a0_0 true _ A3.out).mono ?_); rintro e w' ⟨rfl, ⟨nd, rfl⟩⟩; refine ⟨_, rfl, ?_⟩))
       go_ret
       exact ⟨by first | rfl | (simp [errW_none, errW_some] <;> rfl) | (simp [*, errW_none, errW_some] <;> rfl), by repeat (first | (with_reducible first | exact HB.out | apply below_alloc | apply pw_below_drewN | apply below_drew1 | refine below_set ?_ GE627.out) | exact HB.out)⟩
     ·rw [if_neg c8] at H
      have c8b0 : decide (a0_2 ≤ 1000) = false := decide_eq_false c8
      clear c8
      obtain rfl := Option.some.inj H
      go_enter Try.func68, Try.ntmps68
      go_wp2_with (first | ((with_reducible refine gate_dst (N := 1) rfl ?_); refine box_event ?hg (N := 1) ?hd (cs := #[.int .i64 a0_0, .int .i64 a0_1, .int .i64 a0_2, .int .i64 a0_3, .int .i64 a0_4, .string a0_5]) (t := 52) ?hr ?_; (case hd => rfl); (case hg => rfl); (case hr => first | (go_simp; done) | (go_simp; rfl)); intro gb627 hg w23 hbox hb; have n0_ := Ak (below_step (by repeat (first | (with_reducible first | exact HB.out | apply below_alloc | apply pw_below_drewN | apply below_drew1) | exact HB.out)) hb); have n1_ := Ak (hbox); have n2_ := Ak ((by rw [hg]; exact (below_size (by repeat (first | (with_reducible first | exact HB.out | apply below_alloc | apply pw_below_drewN | apply below_drew1) | exact HB.out))) : w.heap.size ≤ gb627)); have n3_ := Ak ((by rw [hg]; exact (below_size (by repeat (first | (with_reducible first | exact HB.out | apply below_alloc | apply pw_below_drewN | apply below_drew1) | exact HB.out))) : w.heap.size ≤ gb627)); clear HB; have HB := n0_; have BK627 := n1_; have GW627 := n2_; have GE627 := n3_; clear n0_ n1_ n2_ n3_; clear hb hbox hg; have hcz24_0 : w23.cell? ⟨gb627, 0, none⟩ = some (.int .i64 a0_0) := (blk_cell BK627.out 0).trans rfl; have hcz24_1 : w23.cell? ⟨gb627, 1, none⟩ = some (.int .i64 a0_1) := (blk_cell BK627.out 1).trans rfl; have hcz24_2 : w23.cell? ⟨gb627, 2, none⟩ = some (.int .i64 a0_2) := (blk_cell BK627.out 2).trans rfl; have hcz24_3 : w23.cell? ⟨gb627, 3, none⟩ = some (.int .i64 a0_3) := (blk_cell BK627.out 3).trans rfl; have hcz24_4 : w23.cell? ⟨gb627, 4, none⟩ = some (.int .i64 a0_4) := (blk_cell BK627.out 4).trans rfl; have hcz24_5 : w23.cell? ⟨gb627, 5, none⟩ = some (.string a0_5) := (blk_cell BK627.out 5).trans rfl; have hfz24_0 := blk_frozen BK627.out 0; have hfz24_1 := blk_frozen BK627.out 1; have hfz24_2 := blk_frozen BK627.out 2; have hfz24_3 := blk_frozen BK627.out 3; have hfz24_4 := blk_frozen BK627.out 4; have hfz24_5 := blk_frozen BK627.out 5) | ((with_reducible refine gate_callee (f := 41) rfl ?_); refine goesL_ (some 10) rfl rfl Try.func41 (by kernel_rfl) rfl #[.string (⟨#[]⟩ : ByteArray), .int .i64 a0_4, .string a0_5] rfl (by (try simp only [List.map_toArray, List.map_cons, List.map_nil]); first | done | rfl | (simp only [List.length_drop, List.length_take]; rfl)) ?_; (with_reducible refine (impl_TextWrite.calls k (⟨#[]⟩ : ByteArray) a0_4 a0_5 t628 t629 _ A2.out).mono ?_); rintro e w25 ⟨rfl, hb⟩; refine ⟨_, rfl, ?_⟩; have n0_ := Ak (blk_below (g := gb627) (o := .cells #[.int .i64 a0_0, .int .i64 a0_1, .int .i64 a0_2, .int .i64 a0_3, .int .i64 a0_4, .string a0_5] 52 (0, 0)) (by (with_reducible repeat (first | refine blk_drewN ?_ _ | refine blk_drew ?_ | refine blk_alloc ?_ _)); exact BK627.out) hb); have n1_ := Ak (below_step (by repeat (first | (with_reducible first | exact HB.out | apply below_alloc | apply pw_below_drewN | apply below_drew1 | refine below_set ?_ GE627.out) | exact HB.out)) hb); clear BK627; clear HB; have BK627 := n0_; have HB := n1_; clear n0_ n1_; (try clear hb); (try clear hb2); (try clear hk); (try clear hi); have hcz26_0 : w25.cell? ⟨gb627, 0, none⟩ = some (.int .i64 a0_0) := (blk_cell BK627.out 0).trans rfl; have hcz26_1 : w25.cell? ⟨gb627, 1, none⟩ = some (.int .i64 a0_1) := (blk_cell BK627.out 1).trans rfl; have hcz26_2 : w25.cell? ⟨gb627, 2, none⟩ = some (.int .i64 a0_2) := (blk_cell BK627.out 2).trans rfl; have hcz26_3 : w25.cell? ⟨gb627, 3, none⟩ = some (.int .i64 a0_3) := (blk_cell BK627.out 3).trans rfl; have hcz26_4 : w25.cell? ⟨gb627, 4, none⟩ = some (.int .i64 a0_4) := (blk_cell BK627.out 4).trans rfl; have hcz26_5 : w25.cell? ⟨gb627, 5, none⟩ = some (.string a0_5) := (blk_cell BK627.out 5).trans rfl; have hfz26_0 := blk_frozen BK627.out 0; have hfz26_1 := blk_frozen BK627.out 1; have hfz26_2 := blk_frozen BK627.out 2; have hfz26_3 := blk_frozen BK627.out 3; have hfz26_4 := blk_frozen BK627.out 4; have hfz26_5 := blk_frozen BK627.out 5) | ((with_reducible refine gate_callee (f := 58) rfl ?_); refine goesL_ (some 15) rfl rfl Try.func58 (by kernel_rfl) rfl #[.int .i64 a0_0] rfl (by (try simp only [List.map_toArray, List.map_cons, List.map_nil]); first | done | rfl | (simp only [List.length_drop, List.length_take]; rfl)) ?_; (with_reducible refine (impl_client.calls a0_0 true _ A3.out).mono ?_); rintro e w' ⟨rfl, ⟨nd, rfl⟩⟩; refine ⟨_, rfl, ?_⟩))
      go_ret
      exact ⟨by first | rfl | (simp [errW_none, errW_some] <;> rfl) | (simp [*, errW_none, errW_some] <;> rfl), by repeat (first | (with_reducible first | exact HB.out | apply below_alloc | apply pw_below_drewN | apply below_drew1 | refine below_set ?_ GE627.out) | exact HB.out)⟩
    ·rw [if_neg c7] at H
     have c7b0 : decide (1 ≤ a0_2) = false := decide_eq_false c7
     clear c7
     obtain rfl := Option.some.inj H
     go_enter Try.func68, Try.ntmps68
     go_wp2_with (first | ((with_reducible refine gate_dst (N := 1) rfl ?_); refine box_event ?hg (N := 1) ?hd (cs := #[.int .i64 a0_0, .int .i64 a0_1, .int .i64 a0_2, .int .i64 a0_3, .int .i64 a0_4, .string a0_5]) (t := 52) ?hr ?_; (case hd => rfl); (case hg => rfl); (case hr => first | (go_simp; done) | (go_simp; rfl)); intro gb627 hg w27 hbox hb; have n0_ := Ak (below_step (by repeat (first | (with_reducible first | exact HB.out | apply below_alloc | apply pw_below_drewN | apply below_drew1) | exact HB.out)) hb); have n1_ := Ak (hbox); have n2_ := Ak ((by rw [hg]; exact (below_size (by repeat (first | (with_reducible first | exact HB.out | apply below_alloc | apply pw_below_drewN | apply below_drew1) | exact HB.out))) : w.heap.size ≤ gb627)); have n3_ := Ak ((by rw [hg]; exact (below_size (by repeat (first | (with_reducible first | exact HB.out | apply below_alloc | apply pw_below_drewN | apply below_drew1) | exact HB.out))) : w.heap.size ≤ gb627)); clear HB; have HB := n0_; have BK627 := n1_; have GW627 := n2_; have GE627 := n3_; clear n0_ n1_ n2_ n3_; clear hb hbox hg; have hcz28_0 : w27.cell? ⟨gb627, 0, none⟩ = some (.int .i64 a0_0) := (blk_cell BK627.out 0).trans rfl; have hcz28_1 : w27.cell? ⟨gb627, 1, none⟩ = some (.int .i64 a0_1) := (blk_cell BK627.out 1).trans rfl; have hcz28_2 : w27.cell? ⟨gb627, 2, none⟩ = some (.int .i64 a0_2) := (blk_cell BK627.out 2).trans rfl; have hcz28_3 : w27.cell? ⟨gb627, 3, none⟩ = some (.int .i64 a0_3) := (blk_cell BK627.out 3).trans rfl; have hcz28_4 : w27.cell? ⟨gb627, 4, none⟩ = some (.int .i64 a0_4) := (blk_cell BK627.out 4).trans rfl; have hcz28_5 : w27.cell? ⟨gb627, 5, none⟩ = some (.string a0_5) := (blk_cell BK627.out 5).trans rfl; have hfz28_0 := blk_frozen BK627.out 0; have hfz28_1 := blk_frozen BK627.out 1; have hfz28_2 := blk_frozen BK627.out 2; have hfz28_3 := blk_frozen BK627.out 3; have hfz28_4 := blk_frozen BK627.out 4; have hfz28_5 := blk_frozen BK627.out 5) | ((with_reducible refine gate_callee (f := 41) rfl ?_); refine goesL_ (some 10) rfl rfl Try.func41 (by kernel_rfl) rfl #[.string (⟨#[]⟩ : ByteArray), .int .i64 a0_4, .string a0_5] rfl (by (try simp only [List.map_toArray, List.map_cons, List.map_nil]); first | done | rfl | (simp only [List.length_drop, List.length_take]; rfl)) ?_; (with_reducible refine (impl_TextWrite.calls k (⟨#[]⟩ : ByteArray) a0_4 a0_5 t628 t629 _ A2.out).mono ?_); rintro e w29 ⟨rfl, hb⟩; refine ⟨_, rfl, ?_⟩; have n0_ := Ak (blk_below (g := gb627) (o := .cells #[.int .i64 a0_0, .int .i64 a0_1, .int .i64 a0_2, .int .i64 a0_3, .int .i64 a0_4, .string a0_5] 52 (0, 0)) (by (with_reducible repeat (first | refine blk_drewN ?_ _ | refine blk_drew ?_ | refine blk_alloc ?_ _)); exact BK627.out) hb); have n1_ := Ak (below_step (by repeat (first | (with_reducible first | exact HB.out | apply below_alloc | apply pw_below_drewN | apply below_drew1 | refine below_set ?_ GE627.out) | exact HB.out)) hb); clear BK627; clear HB; have BK627 := n0_; have HB := n1_; clear n0_ n1_; (try clear hb); (try clear hb2); (try clear hk); (try clear hi); have hcz30_0 : w29.cell? ⟨gb627, 0, none⟩ = some (.int .i64 a0_0) := (blk_cell BK627.out 0).trans rfl; have hcz30_1 : w29.cell? ⟨gb627, 1, none⟩ = some (.int .i64 a0_1) := (blk_cell BK627.out 1).trans rfl; have hcz30_2 : w29.cell? ⟨gb627, 2, none⟩ = some (.int .i64 a0_2) := (blk_cell BK627.out 2).trans rfl; have hcz30_3 : w29.cell? ⟨gb627, 3, none⟩ = some (.int .i64 a0_3) := (blk_cell BK627.out 3).trans rfl; have hcz30_4 : w29.cell? ⟨gb627, 4, none⟩ = some (.int .i64 a0_4) := (blk_cell BK627.out 4).trans rfl; have hcz30_5 : w29.cell? ⟨gb627, 5, none⟩ = some (.string a0_5) := (blk_cell BK627.out 5).trans rfl; have hfz30_0 := blk_frozen BK627.out 0; have hfz30_1 := blk_frozen BK627.out 1; have hfz30_2 := blk_frozen BK627.out 2; have hfz30_3 := blk_frozen BK627.out 3; have hfz30_4 := blk_frozen BK627.out 4; have hfz30_5 := blk_frozen BK627.out 5) | ((with_reducible refine gate_callee (f := 58) rfl ?_); refine goesL_ (some 15) rfl rfl Try.func58 (by kernel_rfl) rfl #[.int .i64 a0_0] rfl (by (try simp only [List.map_toArray, List.map_cons, List.map_nil]); first | done | rfl | (simp only [List.length_drop, List.length_take]; rfl)) ?_; (with_reducible refine (impl_client.calls a0_0 true _ A3.out).mono ?_); rintro e w' ⟨rfl, ⟨nd, rfl⟩⟩; refine ⟨_, rfl, ?_⟩))
     go_ret
     exact ⟨by first | rfl | (simp [errW_none, errW_some] <;> rfl) | (simp [*, errW_none, errW_some] <;> rfl), by repeat (first | (with_reducible first | exact HB.out | apply below_alloc | apply pw_below_drewN | apply below_drew1 | refine below_set ?_ GE627.out) | exact HB.out)⟩
   ·rw [if_neg c6] at H
    have c6b0 : decide (a0_1 ≤ 100) = false := decide_eq_false c6
    clear c6
    obtain rfl := Option.some.inj H
    go_enter Try.func68, Try.ntmps68
    go_wp2_with (first | ((with_reducible refine gate_dst (N := 1) rfl ?_); refine box_event ?hg (N := 1) ?hd (cs := #[.int .i64 a0_0, .int .i64 a0_1, .int .i64 a0_2, .int .i64 a0_3, .int .i64 a0_4, .string a0_5]) (t := 52) ?hr ?_; (case hd => rfl); (case hg => rfl); (case hr => first | (go_simp; done) | (go_simp; rfl)); intro gb627 hg w31 hbox hb; have n0_ := Ak (below_step (by repeat (first | (with_reducible first | exact HB.out | apply below_alloc | apply pw_below_drewN | apply below_drew1) | exact HB.out)) hb); have n1_ := Ak (hbox); have n2_ := Ak ((by rw [hg]; exact (below_size (by repeat (first | (with_reducible first | exact HB.out | apply below_alloc | apply pw_below_drewN | apply below_drew1) | exact HB.out))) : w.heap.size ≤ gb627)); have n3_ := Ak ((by rw [hg]; exact (below_size (by repeat (first | (with_reducible first | exact HB.out | apply below_alloc | apply pw_below_drewN | apply below_drew1) | exact HB.out))) : w.heap.size ≤ gb627)); clear HB; have HB := n0_; have BK627 := n1_; have GW627 := n2_; have GE627 := n3_; clear n0_ n1_ n2_ n3_; clear hb hbox hg; have hcz32_0 : w31.cell? ⟨gb627, 0, none⟩ = some (.int .i64 a0_0) := (blk_cell BK627.out 0).trans rfl; have hcz32_1 : w31.cell? ⟨gb627, 1, none⟩ = some (.int .i64 a0_1) := (blk_cell BK627.out 1).trans rfl; have hcz32_2 : w31.cell? ⟨gb627, 2, none⟩ = some (.int .i64 a0_2) := (blk_cell BK627.out 2).trans rfl; have hcz32_3 : w31.cell? ⟨gb627, 3, none⟩ = some (.int .i64 a0_3) := (blk_cell BK627.out 3).trans rfl; have hcz32_4 : w31.cell? ⟨gb627, 4, none⟩ = some (.int .i64 a0_4) := (blk_cell BK627.out 4).trans rfl; have hcz32_5 : w31.cell? ⟨gb627, 5, none⟩ = some (.string a0_5) := (blk_cell BK627.out 5).trans rfl; have hfz32_0 := blk_frozen BK627.out 0; have hfz32_1 := blk_frozen BK627.out 1; have hfz32_2 := blk_frozen BK627.out 2; have hfz32_3 := blk_frozen BK627.out 3; have hfz32_4 := blk_frozen BK627.out 4; have hfz32_5 := blk_frozen BK627.out 5) | ((with_reducible refine gate_callee (f := 41) rfl ?_); refine goesL_ (some 10) rfl rfl Try.func41 (by kernel_rfl) rfl #[.string (⟨#[]⟩ : ByteArray), .int .i64 a0_4, .string a0_5] rfl (by (try simp only [List.map_toArray, List.map_cons, List.map_nil]); first | done | rfl | (simp only [List.length_drop, List.length_take]; rfl)) ?_; (with_reducible refine (impl_TextWrite.calls k (⟨#[]⟩ : ByteArray) a0_4 a0_5 t628 t629 _ A2.out).mono ?_); rintro e w33 ⟨rfl, hb⟩; refine ⟨_, rfl, ?_⟩; have n0_ := Ak (blk_below (g := gb627) (o := .cells #[.int .i64 a0_0, .int .i64 a0_1, .int .i64 a0_2, .int .i64 a0_3, .int .i64 a0_4, .string a0_5] 52 (0, 0)) (by (with_reducible repeat (first | refine blk_drewN ?_ _ | refine blk_drew ?_ | refine blk_alloc ?_ _)); exact BK627.out) hb); have n1_ := Ak (below_step (by repeat (first | (with_reducible first | exact HB.out | apply below_alloc | apply pw_below_drewN | apply below_drew1 | refine below_set ?_ GE627.out) | exact HB.out)) hb); clear BK627; clear HB; have BK627 := n0_; have HB := n1_; clear n0_ n1_; (try clear hb); (try clear hb2); (try clear hk); (try clear hi); have hcz34_0 : w33.cell? ⟨gb627, 0, none⟩ = some (.int .i64 a0_0) := (blk_cell BK627.out 0).trans rfl; have hcz34_1 : w33.cell? ⟨gb627, 1, none⟩ = some (.int .i64 a0_1) := (blk_cell BK627.out 1).trans rfl; have hcz34_2 : w33.cell? ⟨gb627, 2, none⟩ = some (.int .i64 a0_2) := (blk_cell BK627.out 2).trans rfl; have hcz34_3 : w33.cell? ⟨gb627, 3, none⟩ = some (.int .i64 a0_3) := (blk_cell BK627.out 3).trans rfl; have hcz34_4 : w33.cell? ⟨gb627, 4, none⟩ = some (.int .i64 a0_4) := (blk_cell BK627.out 4).trans rfl; have hcz34_5 : w33.cell? ⟨gb627, 5, none⟩ = some (.string a0_5) := (blk_cell BK627.out 5).trans rfl; have hfz34_0 := blk_frozen BK627.out 0; have hfz34_1 := blk_frozen BK627.out 1; have hfz34_2 := blk_frozen BK627.out 2; have hfz34_3 := blk_frozen BK627.out 3; have hfz34_4 := blk_frozen BK627.out 4; have hfz34_5 := blk_frozen BK627.out 5) | ((with_reducible refine gate_callee (f := 58) rfl ?_); refine goesL_ (some 15) rfl rfl Try.func58 (by kernel_rfl) rfl #[.int .i64 a0_0] rfl (by (try simp only [List.map_toArray, List.map_cons, List.map_nil]); first | done | rfl | (simp only [List.length_drop, List.length_take]; rfl)) ?_; (with_reducible refine (impl_client.calls a0_0 true _ A3.out).mono ?_); rintro e w' ⟨rfl, ⟨nd, rfl⟩⟩; refine ⟨_, rfl, ?_⟩))
    go_ret
    exact ⟨by first | rfl | (simp [errW_none, errW_some] <;> rfl) | (simp [*, errW_none, errW_some] <;> rfl), by repeat (first | (with_reducible first | exact HB.out | apply below_alloc | apply pw_below_drewN | apply below_drew1 | refine below_set ?_ GE627.out) | exact HB.out)⟩
  ·rw [if_neg c5] at H
   have c5b0 : decide (0 ≤ a0_1) = false := decide_eq_false c5
   clear c5
   obtain rfl := Option.some.inj H
   go_enter Try.func68, Try.ntmps68
   go_wp2_with (first | ((with_reducible refine gate_dst (N := 1) rfl ?_); refine box_event ?hg (N := 1) ?hd (cs := #[.int .i64 a0_0, .int .i64 a0_1, .int .i64 a0_2, .int .i64 a0_3, .int .i64 a0_4, .string a0_5]) (t := 52) ?hr ?_; (case hd => rfl); (case hg => rfl); (case hr => first | (go_simp; done) | (go_simp; rfl)); intro gb627 hg w35 hbox hb; have n0_ := Ak (below_step (by repeat (first | (with_reducible first | exact HB.out | apply below_alloc | apply pw_below_drewN | apply below_drew1) | exact HB.out)) hb); have n1_ := Ak (hbox); have n2_ := Ak ((by rw [hg]; exact (below_size (by repeat (first | (with_reducible first | exact HB.out | apply below_alloc | apply pw_below_drewN | apply below_drew1) | exact HB.out))) : w.heap.size ≤ gb627)); have n3_ := Ak ((by rw [hg]; exact (below_size (by repeat (first | (with_reducible first | exact HB.out | apply below_alloc | apply pw_below_drewN | apply below_drew1) | exact HB.out))) : w.heap.size ≤ gb627)); clear HB; have HB := n0_; have BK627 := n1_; have GW627 := n2_; have GE627 := n3_; clear n0_ n1_ n2_ n3_; clear hb hbox hg; have hcz36_0 : w35.cell? ⟨gb627, 0, none⟩ = some (.int .i64 a0_0) := (blk_cell BK627.out 0).trans rfl; have hcz36_1 : w35.cell? ⟨gb627, 1, none⟩ = some (.int .i64 a0_1) := (blk_cell BK627.out 1).trans rfl; have hcz36_2 : w35.cell? ⟨gb627, 2, none⟩ = some (.int .i64 a0_2) := (blk_cell BK627.out 2).trans rfl; have hcz36_3 : w35.cell? ⟨gb627, 3, none⟩ = some (.int .i64 a0_3) := (blk_cell BK627.out 3).trans rfl; have hcz36_4 : w35.cell? ⟨gb627, 4, none⟩ = some (.int .i64 a0_4) := (blk_cell BK627.out 4).trans rfl; have hcz36_5 : w35.cell? ⟨gb627, 5, none⟩ = some (.string a0_5) := (blk_cell BK627.out 5).trans rfl; have hfz36_0 := blk_frozen BK627.out 0; have hfz36_1 := blk_frozen BK627.out 1; have hfz36_2 := blk_frozen BK627.out 2; have hfz36_3 := blk_frozen BK627.out 3; have hfz36_4 := blk_frozen BK627.out 4; have hfz36_5 := blk_frozen BK627.out 5) | ((with_reducible refine gate_callee (f := 41) rfl ?_); refine goesL_ (some 10) rfl rfl Try.func41 (by kernel_rfl) rfl #[.string (⟨#[]⟩ : ByteArray), .int .i64 a0_4, .string a0_5] rfl (by (try simp only [List.map_toArray, List.map_cons, List.map_nil]); first | done | rfl | (simp only [List.length_drop, List.length_take]; rfl)) ?_; (with_reducible refine (impl_TextWrite.calls k (⟨#[]⟩ : ByteArray) a0_4 a0_5 t628 t629 _ A2.out).mono ?_); rintro e w37 ⟨rfl, hb⟩; refine ⟨_, rfl, ?_⟩; have n0_ := Ak (blk_below (g := gb627) (o := .cells #[.int .i64 a0_0, .int .i64 a0_1, .int .i64 a0_2, .int .i64 a0_3, .int .i64 a0_4, .string a0_5] 52 (0, 0)) (by (with_reducible repeat (first | refine blk_drewN ?_ _ | refine blk_drew ?_ | refine blk_alloc ?_ _)); exact BK627.out) hb); have n1_ := Ak (below_step (by repeat (first | (with_reducible first | exact HB.out | apply below_alloc | apply pw_below_drewN | apply below_drew1 | refine below_set ?_ GE627.out) | exact HB.out)) hb); clear BK627; clear HB; have BK627 := n0_; have HB := n1_; clear n0_ n1_; (try clear hb); (try clear hb2); (try clear hk); (try clear hi); have hcz38_0 : w37.cell? ⟨gb627, 0, none⟩ = some (.int .i64 a0_0) := (blk_cell BK627.out 0).trans rfl; have hcz38_1 : w37.cell? ⟨gb627, 1, none⟩ = some (.int .i64 a0_1) := (blk_cell BK627.out 1).trans rfl; have hcz38_2 : w37.cell? ⟨gb627, 2, none⟩ = some (.int .i64 a0_2) := (blk_cell BK627.out 2).trans rfl; have hcz38_3 : w37.cell? ⟨gb627, 3, none⟩ = some (.int .i64 a0_3) := (blk_cell BK627.out 3).trans rfl; have hcz38_4 : w37.cell? ⟨gb627, 4, none⟩ = some (.int .i64 a0_4) := (blk_cell BK627.out 4).trans rfl; have hcz38_5 : w37.cell? ⟨gb627, 5, none⟩ = some (.string a0_5) := (blk_cell BK627.out 5).trans rfl; have hfz38_0 := blk_frozen BK627.out 0; have hfz38_1 := blk_frozen BK627.out 1; have hfz38_2 := blk_frozen BK627.out 2; have hfz38_3 := blk_frozen BK627.out 3; have hfz38_4 := blk_frozen BK627.out 4; have hfz38_5 := blk_frozen BK627.out 5) | ((with_reducible refine gate_callee (f := 58) rfl ?_); refine goesL_ (some 15) rfl rfl Try.func58 (by kernel_rfl) rfl #[.int .i64 a0_0] rfl (by (try simp only [List.map_toArray, List.map_cons, List.map_nil]); first | done | rfl | (simp only [List.length_drop, List.length_take]; rfl)) ?_; (with_reducible refine (impl_client.calls a0_0 true _ A3.out).mono ?_); rintro e w' ⟨rfl, ⟨nd, rfl⟩⟩; refine ⟨_, rfl, ?_⟩))
   go_ret
   exact ⟨by first | rfl | (simp [errW_none, errW_some] <;> rfl) | (simp [*, errW_none, errW_some] <;> rfl), by repeat (first | (with_reducible first | exact HB.out | apply below_alloc | apply pw_below_drewN | apply below_drew1 | refine below_set ?_ GE627.out) | exact HB.out)⟩
 ·replace c4 := Bool.eq_false_iff.mpr c4
  subst c4
  have H1 : (some false) = some r := by rw [if_neg (show ¬ (false = true) by decide)] at H; exact H
  clear H
  have H := H1
  clear H1
  obtain rfl := Option.some.inj H
  go_enter Try.func68, Try.ntmps68
  go_wp2_with (first | ((with_reducible refine gate_dst (N := 1) rfl ?_); refine box_event ?hg (N := 1) ?hd (cs := #[.int .i64 a0_0, .int .i64 a0_1, .int .i64 a0_2, .int .i64 a0_3, .int .i64 a0_4, .string a0_5]) (t := 52) ?hr ?_; (case hd => rfl); (case hg => rfl); (case hr => first | (go_simp; done) | (go_simp; rfl)); intro gb627 hg w39 hbox hb; have n0_ := Ak (below_step (by repeat (first | (with_reducible first | exact HB.out | apply below_alloc | apply pw_below_drewN | apply below_drew1) | exact HB.out)) hb); have n1_ := Ak (hbox); have n2_ := Ak ((by rw [hg]; exact (below_size (by repeat (first | (with_reducible first | exact HB.out | apply below_alloc | apply pw_below_drewN | apply below_drew1) | exact HB.out))) : w.heap.size ≤ gb627)); have n3_ := Ak ((by rw [hg]; exact (below_size (by repeat (first | (with_reducible first | exact HB.out | apply below_alloc | apply pw_below_drewN | apply below_drew1) | exact HB.out))) : w.heap.size ≤ gb627)); clear HB; have HB := n0_; have BK627 := n1_; have GW627 := n2_; have GE627 := n3_; clear n0_ n1_ n2_ n3_; clear hb hbox hg; have hcz40_0 : w39.cell? ⟨gb627, 0, none⟩ = some (.int .i64 a0_0) := (blk_cell BK627.out 0).trans rfl; have hcz40_1 : w39.cell? ⟨gb627, 1, none⟩ = some (.int .i64 a0_1) := (blk_cell BK627.out 1).trans rfl; have hcz40_2 : w39.cell? ⟨gb627, 2, none⟩ = some (.int .i64 a0_2) := (blk_cell BK627.out 2).trans rfl; have hcz40_3 : w39.cell? ⟨gb627, 3, none⟩ = some (.int .i64 a0_3) := (blk_cell BK627.out 3).trans rfl; have hcz40_4 : w39.cell? ⟨gb627, 4, none⟩ = some (.int .i64 a0_4) := (blk_cell BK627.out 4).trans rfl; have hcz40_5 : w39.cell? ⟨gb627, 5, none⟩ = some (.string a0_5) := (blk_cell BK627.out 5).trans rfl; have hfz40_0 := blk_frozen BK627.out 0; have hfz40_1 := blk_frozen BK627.out 1; have hfz40_2 := blk_frozen BK627.out 2; have hfz40_3 := blk_frozen BK627.out 3; have hfz40_4 := blk_frozen BK627.out 4; have hfz40_5 := blk_frozen BK627.out 5) | ((with_reducible refine gate_callee (f := 41) rfl ?_); refine goesL_ (some 10) rfl rfl Try.func41 (by kernel_rfl) rfl #[.string (⟨#[]⟩ : ByteArray), .int .i64 a0_4, .string a0_5] rfl (by (try simp only [List.map_toArray, List.map_cons, List.map_nil]); first | done | rfl | (simp only [List.length_drop, List.length_take]; rfl)) ?_; (with_reducible refine (impl_TextWrite.calls k (⟨#[]⟩ : ByteArray) a0_4 a0_5 t628 t629 _ A2.out).mono ?_); rintro e w41 ⟨rfl, hb⟩; refine ⟨_, rfl, ?_⟩; have n0_ := Ak (blk_below (g := gb627) (o := .cells #[.int .i64 a0_0, .int .i64 a0_1, .int .i64 a0_2, .int .i64 a0_3, .int .i64 a0_4, .string a0_5] 52 (0, 0)) (by (with_reducible repeat (first | refine blk_drewN ?_ _ | refine blk_drew ?_ | refine blk_alloc ?_ _)); exact BK627.out) hb); have n1_ := Ak (below_step (by repeat (first | (with_reducible first | exact HB.out | apply below_alloc | apply pw_below_drewN | apply below_drew1 | refine below_set ?_ GE627.out) | exact HB.out)) hb); clear BK627; clear HB; have BK627 := n0_; have HB := n1_; clear n0_ n1_; (try clear hb); (try clear hb2); (try clear hk); (try clear hi); have hcz42_0 : w41.cell? ⟨gb627, 0, none⟩ = some (.int .i64 a0_0) := (blk_cell BK627.out 0).trans rfl; have hcz42_1 : w41.cell? ⟨gb627, 1, none⟩ = some (.int .i64 a0_1) := (blk_cell BK627.out 1).trans rfl; have hcz42_2 : w41.cell? ⟨gb627, 2, none⟩ = some (.int .i64 a0_2) := (blk_cell BK627.out 2).trans rfl; have hcz42_3 : w41.cell? ⟨gb627, 3, none⟩ = some (.int .i64 a0_3) := (blk_cell BK627.out 3).trans rfl; have hcz42_4 : w41.cell? ⟨gb627, 4, none⟩ = some (.int .i64 a0_4) := (blk_cell BK627.out 4).trans rfl; have hcz42_5 : w41.cell? ⟨gb627, 5, none⟩ = some (.string a0_5) := (blk_cell BK627.out 5).trans rfl; have hfz42_0 := blk_frozen BK627.out 0; have hfz42_1 := blk_frozen BK627.out 1; have hfz42_2 := blk_frozen BK627.out 2; have hfz42_3 := blk_frozen BK627.out 3; have hfz42_4 := blk_frozen BK627.out 4; have hfz42_5 := blk_frozen BK627.out 5) | ((with_reducible refine gate_callee (f := 58) rfl ?_); refine goesL_ (some 15) rfl rfl Try.func58 (by kernel_rfl) rfl #[.int .i64 a0_0] rfl (by (try simp only [List.map_toArray, List.map_cons, List.map_nil]); first | done | rfl | (simp only [List.length_drop, List.length_take]; rfl)) ?_; (with_reducible refine (impl_client.calls a0_0 false _ A3.out).mono ?_); rintro e w' ⟨rfl, ⟨nd, rfl⟩⟩; refine ⟨_, rfl, ?_⟩))
  go_ret
  exact ⟨by first | rfl | (simp [errW_none, errW_some] <;> rfl) | (simp [*, errW_none, errW_some] <;> rfl), by repeat (first | (with_reducible first | exact HB.out | apply below_alloc | apply pw_below_drewN | apply below_drew1 | refine below_set ?_ GE627.out) | exact HB.out)⟩
end Go.Proofs.Ytmekkapacbdbeaa.P
namespace Go.Proofs.Ytmekkapacbdbeaa.P
open Go.RowKit Go.Proofs.YtmekkapacbdbeaaW.PrintWords Go.Proofs.YtmekkapacbdbeaaW.PrintLast Go.Proofs.YtmekkapacbdbeaaW.PrintMore
theorem ba_ext {a b : ByteArray} (h : a.data.toList = b.data.toList) : a = b := by
 obtain ⟨⟨a⟩⟩ := a
 obtain ⟨⟨b⟩⟩ := b
 simpa using h
theorem ba_app (a b : ByteArray) : (a ++ b).data.toList = a.data.toList ++ b.data.toList := by simp [ByteArray.data_append]
theorem ba_ex (a : ByteArray) (i j : Nat) : (a.extract i j).data.toList = (a.data.toList.drop i).take (j - i) := by
 simp [ByteArray.data_extract, Array.toList_extract, List.extract_eq_take_drop]
theorem ba_size (a : ByteArray) : a.data.toList.length = a.size := Array.length_toList
theorem ba_dots (n : Nat) : (dots n).data.toList = List.replicate n 46 := by simp [dots]
theorem dots_size (n : Nat) : (dots n).size = n := by rw [← ba_size, ba_dots]; simp
theorem dots_zero (t : ByteArray) : t ++ dots 0 = t := ba_ext (by rw [ba_app, ba_dots]; simp)
theorem dots_succ (t : ByteArray) (n : Nat) : t ++ (⟨#[46]⟩ : ByteArray) ++ dots n = t ++ dots (n + 1) := ba_ext (by
 rw [ba_app, ba_app, ba_app, ba_dots, ba_dots, List.append_assoc]
 rfl)
theorem app_size (a b : ByteArray) : (a ++ b).size = a.size + b.size := ByteArray.size_append
def writeText (t : ByteArray) (i : Nat) (d : ByteArray) : ByteArray := ((t ++ dots (i - t.size)).extract 0 i ++ d) ++ t.extract (min (i + d.size) t.size) t.size
theorem l2Long_loop (n : Nat) : ∀ d (t : ByteArray), t.size + d = n → n ≤ 4096 → Ev (fun k => spec_l2Long.l0 k t (n : Int)) (t ++ dots d)
 | 0, t, h, hn => by
  rw [dots_zero]
  refine Ev.step (f := fun _ => some t) (fun k => ?_) (Ev.now _)
  show spec_l2Long.l0 (k + 1) t (n : Int) = _
  rw [spec_l2Long.l0, if_neg (by omega)]
 | d + 1, t, h, hn => by
  have hs : (t ++ (⟨#[46]⟩ : ByteArray)).size = t.size + 1 := app_size _ _
  refine Ev.step (f := fun k => spec_l2Long.l0 k (t ++ (⟨#[46]⟩ : ByteArray)) (n : Int)) (fun k => ?_) ?_
  ·show spec_l2Long.l0 (k + 1) t (n : Int) = _
   rw [spec_l2Long.l0, if_pos (by omega), if_pos (by omega)]
  ·have := l2Long_loop n d (t ++ (⟨#[46]⟩ : ByteArray)) (by rw [hs]; omega) hn
   rw [dots_succ] at this
   exact this
theorem spec_l2Long_ev {t : ByteArray} {n : Nat} (hn : n ≤ 4096) : Ev (fun k => spec_l2Long.f k t (n : Int)) (t ++ dots (n - t.size)) := by
 unfold spec_l2Long.f
 by_cases h : t.size ≤ n
 ·exact l2Long_loop n (n - t.size) t (by omega) hn
 ·rw [show n - t.size = 0 by omega, dots_zero]
  refine Ev.step (f := fun _ => some t) (fun k => ?_) (Ev.now _)
  show spec_l2Long.l0 (k + 1) t (n : Int) = _
  rw [spec_l2Long.l0, if_neg (by omega)]
theorem ex_size (a : ByteArray) (i j : Nat) : (a.extract i j).size = min j a.size - i := ByteArray.size_extract
theorem l1Min_eq (x y : Int) : spec_l1Min.f x y = some (if x < y then x else y) := by
 unfold spec_l1Min.f
 split <;> rfl
theorem spec_l2Write_ev {t d : ByteArray} {i : Nat} (hi : i ≤ 48) (hd : d.size ≤ 48) (ht : t.size ≤ 4096) : Ev (fun k => spec_l2Write.f k t (i : Int) d) (writeText t i d) := by
 unfold spec_l2Write.f
 refine Ev.bind (spec_l2Long_ev (by omega)) ?_
 have hL : (t ++ dots (i - t.size)).size = max t.size i := by rw [app_size, dots_size]; omega
 refine Ev.congr (f := fun _ => some (writeText t i d)) (fun k => ?_) (Ev.now _)
 rw [if_pos (by omega), if_pos (by rw [hL]; omega), if_pos (by rw [ex_size, hL]; omega), l1Min_eq, Option.bind_some, w64 (by omega) (by omega), hL, Int.toNat_natCast]
 have hq : (if ((max t.size i : Nat) : Int) < (i : Int) + (d.size : Int) then ((max t.size i : Nat) : Int) else (i : Int) + (d.size : Int)) = ((min (max t.size i) (i + d.size) : Nat) : Int) := by split <;> omega
 rw [hq, if_pos (by omega), if_pos (by omega), if_pos (by rw [app_size, ex_size, ex_size, hL]; omega), Int.toNat_natCast]
 congr 1
 unfold writeText
 refine congrArg (fun z => ((t ++ dots (i - t.size)).extract 0 i ++ d) ++ z) (ba_ext ?_)
 rw [ba_ex, ba_ex, ba_app, ba_dots]
 have hs := ba_size t
 by_cases h : i + d.size ≤ t.size
 ·rw [show i - t.size = 0 by omega, show max t.size i = t.size by omega, Nat.min_comm]
  simp
 ·rw [show min (i + d.size) t.size = t.size by omega, show min (max t.size i) (i + d.size) = max t.size i by omega]
  simp
def writeOk (i : Int) (d : ByteArray) : Bool := decide (0 ≤ i) && (decide (i ≤ 48) && (!decide (d.size = 0) && (textOk d && decide (i + d.size ≤ 48))))
theorem writeOk_iff {i : Int} {d : ByteArray} : writeOk i d = true ↔ 0 ≤ i ∧ i ≤ 48 ∧ d.size ≠ 0 ∧ textOk d = true ∧ i + d.size ≤ 48 := by simp [writeOk]
theorem mx_nat (a b : Nat) : mx (a : Int) (b : Int) = ((max a b : Nat) : Int) := by unfold mx; split <;> omega
theorem mn_nat (a b : Nat) : mn (a : Int) (b : Int) = ((min a b : Nat) : Int) := by unfold mn; split <;> omega
theorem impl_write_eq {t d : ByteArray} {i : Nat} (hi : i + d.size ≤ 48) (ht : t.size ≤ 48) (z : Option (ByteArray × Bool)) :
  ((impl_sized.f t (mx (t.size : Int) (wrap64 ((i : Int) + (d.size : Int))))).bind fun t1213 => (if 0 ≤ (i : Int) then (if (i : Int) ≤ (t1213.size : Int) then (if (t1213.extract 0 (i : Int).toNat).size + d.size ≤ 9223372036854775807 then (if 0 ≤ (mn (wrap64 ((i : Int) + (d.size : Int))) (t.size : Int)) then (if (mn (wrap64 ((i : Int) + (d.size : Int))) (t.size : Int)) ≤ (t.size : Int) then (if ((t1213.extract 0 (i : Int).toNat) ++ d).size + (t.extract ((mn (wrap64 ((i : Int) + (d.size : Int))) (t.size : Int)) : Int).toNat t.size).size ≤ 9223372036854775807 then (some (((t1213.extract 0 (i : Int).toNat) ++ d) ++ (t.extract ((mn (wrap64 ((i : Int) + (d.size : Int))) (t.size : Int)) : Int).toNat t.size), true)) else z) else z) else z) else z) else z) else z)) = some (writeText t i d, true) := by
 rw [w64 (by omega) (by omega), show (i : Int) + (d.size : Int) = ((i + d.size : Nat) : Int) by omega, mx_nat, mn_nat]
 have hz : impl_sized.f t ((max t.size (i + d.size) : Nat) : Int) = some (t ++ dots (i + d.size - t.size)) := by
  unfold impl_sized.f
  by_cases h : i + d.size ≤ t.size
  ·rw [if_pos (by omega), if_pos (by omega), Int.toNat_natCast, show i + d.size - t.size = 0 by omega, dots_zero, show max t.size (i + d.size) = t.size by omega]
   congr 1
   refine ba_ext ?_
   rw [ba_ex, List.drop_zero]
   exact List.take_of_length_le (by rw [ba_size]; omega)
  ·rw [if_neg (by omega), if_pos (by omega), Int.toNat_natCast, show max t.size (i + d.size) = i + d.size by omega]
 have hL : (t ++ dots (i + d.size - t.size)).size = max t.size (i + d.size) := by rw [app_size, dots_size]; omega
 rw [hz, Option.bind_some, if_pos (by omega), if_pos (by rw [hL]; omega), Int.toNat_natCast, if_pos (by rw [ex_size, hL]; omega), if_pos (by omega), if_pos (by omega), Int.toNat_natCast, if_pos (by rw [app_size, ex_size, ex_size, hL]; omega)]
 unfold writeText
 have hx : (t ++ dots (i + d.size - t.size)).extract 0 i = (t ++ dots (i - t.size)).extract 0 i := by
  refine ba_ext ?_
  rw [ba_ex, ba_ex, ba_app, ba_app, ba_dots, ba_dots, List.drop_zero, List.drop_zero, Nat.sub_zero, List.take_append, List.take_append, List.take_replicate, List.take_replicate, ba_size]
  congr 2
  omega
 rw [hx]
theorem impl_TextWrite_ev {t d : ByteArray} {i : Int} (ht : t.size ≤ 9223372036854775807) (hd : d.size ≤ 9223372036854775807) :
  Ev (fun k => impl_TextWrite.f k t i d) (if textOk t = true then (if writeOk i d = true then (writeText t i.toNat d, true) else (t, false)) else (⟨#[]⟩, false)) := by
 unfold impl_TextWrite.f
 refine Ev.bind (impl_TextOk_ev ht) ?_
 cases htx : textOk t
 ·exact Ev.now _
 have htz : t.size ≤ 48 := by simp [textOk] at htx; exact htx.2
 simp only [if_true]
 have no : writeOk i d = false → Ev (fun _ : Nat => some (t, false)) (if writeOk i d = true then (writeText t i.toNat d, true) else (t, false)) := fun h => by
  rw [h]
  exact Ev.now _
 by_cases h1 : i < 0
 ·simp only [if_pos h1]
  exact no (Bool.eq_false_iff.2 fun h => by have := writeOk_iff.1 h; omega)
 simp only [if_neg h1]
 by_cases h2 : i > 48
 ·simp only [if_pos h2]
  exact no (Bool.eq_false_iff.2 fun h => by have := writeOk_iff.1 h; omega)
 simp only [if_neg h2]
 by_cases h3 : d.toList = []
 ·simp only [if_pos h3]
  exact no (Bool.eq_false_iff.2 fun h => (writeOk_iff.1 h).2.2.1 (toList_nil.1 h3))
 have h3' : d.size ≠ 0 := fun h => h3 (toList_nil.2 h)
 simp only [if_neg h3]
 refine Ev.bind (impl_TextOk_ev hd) ?_
 cases h5 : textOk d
 ·exact no (Bool.eq_false_iff.2 fun h => by have := (writeOk_iff.1 h).2.2.2.1; rw [h5] at this; cases this)
 simp only [if_true]
 have hdz : d.size ≤ 48 := by simp [textOk] at h5; exact h5.2
 obtain ⟨n, rfl⟩ := Int.eq_ofNat_of_zero_le (by omega : 0 ≤ i)
 by_cases h4 : (n : Int) + d.size ≤ 48
 ·have hw : ¬ wrap64 ((n : Int) + (d.size : Int)) > 48 := by rw [w64 (by omega) (by omega)]; omega
  simp only [if_neg hw]
  rw [if_pos (writeOk_iff.2 ⟨by omega, by omega, h3', h5, h4⟩), Int.toNat_natCast]
  exact Ev.congr (f := fun _ => some (writeText t n d, true)) (fun k => impl_write_eq (by omega) htz none) (Ev.now _)
 ·have hw : wrap64 ((n : Int) + (d.size : Int)) > 48 := by rw [w64 (by omega) (by omega)]; omega
  simp only [if_pos hw]
  exact no (Bool.eq_false_iff.2 fun h => h4 (writeOk_iff.1 h).2.2.2.2)
structure Rq where
 who : Int
 epoch : Int
 num : Int
 obj : Int
 at_ : Int
 data : ByteArray
deriving DecidableEq
def reqOk (q : Rq) : Bool := whoOk q.who && (decide (0 ≤ q.epoch) && (decide (q.epoch ≤ 100) && (decide (1 ≤ q.num) && (decide (q.num ≤ 1000) && (decide (0 ≤ q.obj) && (decide (q.obj < 3) && writeOk q.at_ q.data))))))
theorem reqOk_iff {q : Rq} : reqOk q = true ↔ whoOk q.who = true ∧ 0 ≤ q.epoch ∧ q.epoch ≤ 100 ∧ 1 ≤ q.num ∧ q.num ≤ 1000 ∧ 0 ≤ q.obj ∧ q.obj < 3 ∧ writeOk q.at_ q.data = true := by simp [reqOk]
theorem spec_l5Req_ev {q : Rq} (hd : q.data.size ≤ 9223372036854775807) : Ev (fun k => spec_l5Req.f k q.who q.epoch q.num q.obj q.at_ q.data) (reqOk q) := by
 unfold spec_l5Req.f
 have hw : spec_l4Who.f q.who = some (whoOk q.who) := who_eq q.who
 rw [hw]
 simp only [Option.bind_some]
 have no : ∀ {x : Bool}, (reqOk q = true → x = true → False) → (x = true) → Ev (fun _ : Nat => some false) (reqOk q) := fun h hx => by
  cases hr : reqOk q
  ·exact Ev.now _
  ·exact (h hr hx).elim
 by_cases h0 : whoOk q.who = true
 case neg => rw [show (fun k => _) = (fun _ : Nat => some false) from funext fun k => if_neg h0]; exact no (x := true) (fun h _ => h0 (reqOk_iff.1 h).1) rfl
 simp only [if_pos h0]
 by_cases h1 : q.epoch < 0
 ·simp only [if_pos h1]; exact no (x := true) (fun h _ => by have := reqOk_iff.1 h; omega) rfl
 simp only [if_neg h1]
 by_cases h2 : q.epoch > 100
 ·simp only [if_pos h2]; exact no (x := true) (fun h _ => by have := reqOk_iff.1 h; omega) rfl
 simp only [if_neg h2]
 by_cases h3 : q.num < 1
 ·simp only [if_pos h3]; exact no (x := true) (fun h _ => by have := reqOk_iff.1 h; omega) rfl
 simp only [if_neg h3]
 by_cases h4 : q.num > 1000
 ·simp only [if_pos h4]; exact no (x := true) (fun h _ => by have := reqOk_iff.1 h; omega) rfl
 simp only [if_neg h4]
 by_cases h5 : q.obj < 0
 ·simp only [if_pos h5]; exact no (x := true) (fun h _ => by have := reqOk_iff.1 h; omega) rfl
 simp only [if_neg h5]
 by_cases h6 : q.obj ≥ 3
 ·simp only [if_pos h6]; exact no (x := true) (fun h _ => by have := reqOk_iff.1 h; omega) rfl
 simp only [if_neg h6]
 by_cases h7 : q.at_ ≥ 0
 case neg => simp only [if_neg h7]; exact no (x := true) (fun h _ => by have := writeOk_iff.1 (reqOk_iff.1 h).2.2.2.2.2.2.2; omega) rfl
 simp only [if_pos h7]
 by_cases h8 : q.at_ ≤ 48
 case neg => simp only [if_neg h8]; exact no (x := true) (fun h _ => by have := writeOk_iff.1 (reqOk_iff.1 h).2.2.2.2.2.2.2; omega) rfl
 simp only [if_pos h8]
 refine Ev.bind (spec_TextOk_ev hd) ?_
 cases h9 : textOk q.data
 ·exact no (x := true) (fun h _ => by have := (writeOk_iff.1 (reqOk_iff.1 h).2.2.2.2.2.2.2).2.2.2.1; rw [h9] at this; cases this) rfl
 simp only [if_true]
 have hz : q.data.size ≤ 48 := by simp [textOk] at h9; exact h9.2
 by_cases h10 : q.data.toList = []
 ·simp only [if_pos h10]; exact no (x := true) (fun h _ => (writeOk_iff.1 (reqOk_iff.1 h).2.2.2.2.2.2.2).2.2.1 (toList_nil.1 h10)) rfl
 simp only [if_neg h10]
 rw [w64 (by omega) (by omega)]
 have : reqOk q = decide (q.at_ + (q.data.size : Int) ≤ 48) := by
  rw [Bool.eq_iff_iff, reqOk_iff, writeOk_iff, decide_eq_true_eq]
  exact ⟨fun h => by omega, fun h => ⟨h0, by omega, by omega, by omega, by omega, by omega, by omega, by omega, by omega, fun e => h10 (toList_nil.2 e), h9, h⟩⟩
 rw [this]
 exact Ev.now _
theorem impl_formed_ev {q : Rq} (hd : q.data.size ≤ 9223372036854775807) : Ev (fun k => impl_formed.f k q.who q.epoch q.num q.obj q.at_ q.data) (reqOk q) := by
 unfold impl_formed.f
 refine Ev.bind (impl_TextWrite_ev (by decide) hd) ?_
 have h0 : textOk ⟨#[]⟩ = true := by decide
 rw [if_pos h0]
 have hb : ∀ (x y : ByteArray), (if writeOk q.at_ q.data = true then (x, true) else (y, false)).2 = writeOk q.at_ q.data := fun x y => by cases writeOk q.at_ q.data <;> rfl
 rw [who_eq, Option.bind_some, hb]
 have : (if whoOk q.who = true then (if q.epoch ≥ 0 then (if q.epoch ≤ 100 then (if q.num ≥ 1 then (if q.num ≤ 1000 then (if q.obj ≥ 0 then (if q.obj < 3 then (some (writeOk q.at_ q.data)) else (some false)) else (some false)) else (some false)) else (some false)) else (some false)) else (some false)) else (some false)) = some (reqOk q) := by
  by_cases c0 : whoOk q.who = true <;> by_cases c1 : 0 ≤ q.epoch <;> by_cases c2 : q.epoch ≤ 100 <;> by_cases c3 : 1 ≤ q.num <;> by_cases c4 : q.num ≤ 1000 <;> by_cases c5 : 0 ≤ q.obj <;> by_cases c6 : q.obj < 3 <;> simp [reqOk, c0, c1, c2, c3, c4, c5, c6]
 rw [this]
 exact Ev.now _
section
variable {w : World} {who ep num obj at_ : Int} {data r t : ByteArray} {b : Bool}
theorem spec_l5Req_c (hd : data.size ≤ 9223372036854775807) (hq : reqOk ⟨who, ep, num, obj, at_, data⟩ = b) :
  Calls Try.prog 73 #[.agg #[.int .i64 who, .int .i64 ep, .int .i64 num, .int .i64 obj, .int .i64 at_, .string data]] w fun e w' => e = .returned (.bool b) ∧ Below w.heap.size w w' := by
 obtain ⟨k, hk⟩ := (spec_l5Req_ev (q := ⟨who, ep, num, obj, at_, data⟩) hd).rounds
 rw [hq] at hk
 exact spec_l5Req.calls k who ep num obj at_ data b w hk
theorem impl_formed_c (hd : data.size ≤ 9223372036854775807) (hq : reqOk ⟨who, ep, num, obj, at_, data⟩ = b) :
  Calls Try.prog 68 #[.agg #[.int .i64 who, .int .i64 ep, .int .i64 num, .int .i64 obj, .int .i64 at_, .string data]] w fun e w' => e = .returned (.bool b) ∧ Below w.heap.size w w' := by
 obtain ⟨k, hk⟩ := (impl_formed_ev (q := ⟨who, ep, num, obj, at_, data⟩) hd).rounds
 rw [hq] at hk
 exact impl_formed.calls k who ep num obj at_ data b w hk
theorem textOk_size {t : ByteArray} (h : textOk t = true) : t.size ≤ 48 := by
 simp [textOk] at h
 exact h.2
theorem spec_l2Write_c (hq : reqOk ⟨who, ep, num, obj, at_, data⟩ = true) (ht : textOk t = true) (hr : writeText t at_.toNat data = r) :
  Calls Try.prog 74 #[.string t, .int .i64 at_, .string data] w fun e w' => e = .returned (.string r) ∧ Below w.heap.size w w' := by
 obtain ⟨h1, h2, h3, h4, h5⟩ := writeOk_iff.1 (reqOk_iff.1 hq).2.2.2.2.2.2.2
 have h1 : 0 ≤ at_ := h1
 have h2 : at_ ≤ 48 := h2
 have h5 : at_ + (data.size : Int) ≤ 48 := h5
 obtain ⟨n, rfl⟩ := Int.eq_ofNat_of_zero_le h1
 obtain ⟨k, hk⟩ := (spec_l2Write_ev (t := t) (d := data) (i := n) (by omega) (by omega) (by have := textOk_size ht; omega)).rounds
 rw [Int.toNat_natCast] at hr
 rw [hr] at hk
 exact (spec_l2Write.calls k t n data r w hk).mono fun _ _ ⟨e, h⟩ => ⟨e, h.below⟩
theorem impl_TextWrite_c (hq : reqOk ⟨who, ep, num, obj, at_, data⟩ = true) (ht : textOk t = true) (hr : writeText t at_.toNat data = r) :
  Calls Try.prog 41 #[.string t, .int .i64 at_, .string data] w fun e w' => e = .returned (.tuple #[.string r, .bool true]) ∧ Below w.heap.size w w' := by
 have hw := (reqOk_iff.1 hq).2.2.2.2.2.2.2
 obtain ⟨h1, h2, h3, h4, h5⟩ := writeOk_iff.1 hw
 obtain ⟨k, hk⟩ := (impl_TextWrite_ev (t := t) (d := data) (i := at_) (by have := textOk_size ht; omega) (by have := textOk_size (show textOk data = true from h4); omega)).rounds
 rw [if_pos ht, if_pos (show writeOk at_ data = true from hw), hr] at hk
 exact impl_TextWrite.calls k t at_ data r true w hk
end
def doSt (s : St) (q : Rq) : St × Int :=
 if reqOk q = true then (if q.epoch < rd s.floors q.who then (s, 2) else if q.num ≤ rd s.last q.who then (s, 3) else if rd s.last q.who + 1 < q.num then (s, 4)
  else ({ s with now := s.now.set q.obj.toNat (writeText (rdOf ByteArray.empty s.now q.obj) q.at_.toNat q.data), last := s.last.set q.who.toNat q.num }, 0)) else (s, 1)
section
variable {s t : St} {who ep num obj at_ c nx : Int} {data r : ByteArray}
theorem doSt_w2 (ht : doSt s ⟨who, ep, num, obj, at_, data⟩ = (t, c)) (hq : reqOk ⟨who, ep, num, obj, at_, data⟩ = true) (h1 : ep < rd s.floors who) : t = s ∧ c = 2 := by
 unfold doSt at ht
 rw [if_pos hq, if_pos (show ep < rd s.floors who from h1)] at ht
 cases ht
 exact ⟨rfl, rfl⟩
theorem doSt_w3 (ht : doSt s ⟨who, ep, num, obj, at_, data⟩ = (t, c)) (hq : reqOk ⟨who, ep, num, obj, at_, data⟩ = true) (h1 : ¬ ep < rd s.floors who) (h2 : num ≤ rd s.last who) : t = s ∧ c = 3 := by
 unfold doSt at ht
 rw [if_pos hq, if_neg (show ¬ ep < rd s.floors who from h1), if_pos (show num ≤ rd s.last who from h2)] at ht
 cases ht
 exact ⟨rfl, rfl⟩
theorem doSt_w4 (ht : doSt s ⟨who, ep, num, obj, at_, data⟩ = (t, c)) (hq : reqOk ⟨who, ep, num, obj, at_, data⟩ = true) (h1 : ¬ ep < rd s.floors who) (h2 : ¬ num ≤ rd s.last who) (hn : nx = rd s.last who + 1) (h3 : num > nx) : t = s ∧ c = 4 := by
 subst hn
 unfold doSt at ht
 rw [if_pos hq, if_neg (show ¬ ep < rd s.floors who from h1), if_neg (show ¬ num ≤ rd s.last who from h2), if_pos (show rd s.last who + 1 < num from h3)] at ht
 cases ht
 exact ⟨rfl, rfl⟩
theorem doSt_w5 (ht : doSt s ⟨who, ep, num, obj, at_, data⟩ = (t, c)) (hq : reqOk ⟨who, ep, num, obj, at_, data⟩ = true) (h1 : ¬ ep < rd s.floors who) (h2 : ¬ num ≤ rd s.last who) (hn : nx = rd s.last who + 1) (h3 : ¬ num > nx) (hr : writeText (rdOf ByteArray.empty s.now obj) at_.toNat data = r) : t = { s with now := s.now.set obj.toNat r, last := s.last.set who.toNat num } ∧ c = 0 := by
 subst hn hr
 unfold doSt at ht
 rw [if_pos hq, if_neg (show ¬ ep < rd s.floors who from h1), if_neg (show ¬ num ≤ rd s.last who from h2), if_neg (show ¬ rd s.last who + 1 < num from h3)] at ht
 cases ht
 exact ⟨rfl, rfl⟩
end
end Go.Proofs.Ytmekkapacbdbeaa.P
namespace Go.Proofs.Ytmekkapacbdbeaa.P
open Go.RowKit Go.Proofs.YtmekkapacbdbeaaW.PrintWords Go.Proofs.YtmekkapacbdbeaaW.PrintLast Go.Proofs.YtmekkapacbdbeaaW.PrintMore
attribute [local go_sem] max2_int min2_int max_two min_two
set_option linter.unusedVariables false
set_option linter.unusedSimpArgs false
set_option maxHeartbeats 8000000 in
set_option maxRecDepth 100000 in
theorem spec_l5Do_p1 {w0 w : World} {v0 : Value} {s0 : St} {lo hi : Nat} (hB : Below w0.heap.size w0 w) (hv0 : StR w lo hi v0 s0) (hlo : w0.heap.size ≤ lo) (hhi : hi ≤ w.heap.size) (who ep num obj at_ : Int) (data : ByteArray) (hd : data.size ≤ 9223372036854775807) (hq : reqOk ⟨who, ep, num, obj, at_, data⟩ = false)  :
  Calls Try.prog 51 #[v0, .agg #[.int .i64 who, .int .i64 ep, .int .i64 num, .int .i64 obj, .int .i64 at_, .string data]] w fun e w' => e = .returned (.tuple #[v0, .int .i64 1]) ∧ StR w' lo hi v0 s0 ∧ Below w0.heap.size w0 w' ∧ Kept w w' (fun k => lo ≤ k ∧ k < hi) := by
 have HB0 := Ak hB
 have HLO := Ak hlo
 have HHI := Ak hhi
 have HV0 := Ak hv0
 obtain ⟨A0, c0, A1, c1, A2, c2, A3, c3, A4, c4, rfl, _⟩ := hv0.toC
 have KP0 := Ak (Kept.refl w (fun k => lo ≤ k ∧ k < hi))
 clear hB hlo hhi hv0
 have HD := Ak hd
 have HQ := Ak hq
 clear hd hq
 have hu26 := Try.underlying26
 have hu52 := Try.underlying52
 go_enter Try.func51, Try.ntmps51
 go_wp2_with (first | ((with_reducible refine gate_dst (N := 2) rfl ?_); refine ev_box ?hg (N := 2) ?hd (cs := #[.slice A0 s0.now.length c0, .slice A1 s0.sure.length c1, .slice A2 s0.last.length c2, .slice A3 s0.slast.length c3, .slice A4 s0.floors.length c4]) (t := 26) ?hr ?_; (case hd => rfl); (case hg => rfl); (case hr => first | (go_simp; done) | (go_simp; rfl)); intro g2 W1 HG4 BK2 HB3) | ((with_reducible refine gate_dst (N := 3) rfl ?_); refine ev_box ?hg (N := 3) ?hd (cs := #[.int .i64 who, .int .i64 ep, .int .i64 num, .int .i64 obj, .int .i64 at_, .string data]) (t := 52) ?hr ?_; (case hd => rfl); (case hg => rfl); (case hr => first | (go_simp; done) | (go_simp; rfl)); intro g3 W5 HG8 BK6 HB7) | ((with_reducible refine gate_dst (N := 4) rfl ?_); refine ev_box ?hg (N := 4) ?hd (cs := #[.slice none 0 0, .slice none 0 0, .slice none 0 0, .slice none 0 0, .slice none 0 0]) (t := 26) ?hr ?_; (case hd => rfl); (case hg => rfl); (case hr => first | (go_simp; done) | (go_simp; rfl)); intro g4 W9 HG12 BK10 HB11) | ((with_reducible refine gate_dst (N := 7) rfl ?_); refine ev_load rfl (N := 7) rfl rfl (g := g3) rfl (cs := #[.int .i64 who, .int .i64 ep, .int .i64 num, .int .i64 obj, .int .i64 at_, .string data]) (Bk.below BK6.out HB11.out) hu52 rfl (by kernel_rfl) ?_))
 refine (spec_l5Req_c HD.out HQ.out).mono ?_
 rintro e W13 ⟨rfl, hb14⟩
 have HB15 := Ak hb14
 clear hb14
 go_wp2_with (first | ((with_reducible refine gate_dst (N := 10) rfl ?_); refine ev_load rfl (N := 10) rfl rfl (g := g2) rfl (cs := #[.slice A0 s0.now.length c0, .slice A1 s0.sure.length c1, .slice A2 s0.last.length c2, .slice A3 s0.slast.length c3, .slice A4 s0.floors.length c4]) (Bk.below BK2.out (below_step (below_step HB7.out HB11.out) HB15.out)) hu26 rfl (by kernel_rfl) ?_) | ((with_reducible refine gate_store (t := 26) (p := 4) rfl ?_); refine ev_put (by rfl) rfl rfl (g := g4) rfl (cs := #[.slice A0 s0.now.length c0, .slice A1 s0.sure.length c1, .slice A2 s0.last.length c2, .slice A3 s0.slast.length c3, .slice A4 s0.floors.length c4]) rfl (Bk.below BK10.out HB15.out) (by kernel_rfl) rfl rfl ?_; intro W16 BK17 HB18 HK19; have z0_ := HLO.out; have z1_ := HHI.out; have z2_ := HB0.out.size; have z3_ := HB3.out.size; have z4_ := HG4.out; have z5_ := BK2.out.lt; have z6_ := HB7.out.size; have z7_ := HG8.out; have z8_ := BK6.out.lt; have z9_ := HB11.out.size; have z10_ := HG12.out; have z11_ := BK10.out.lt; have z12_ := HB15.out.size; have HB20 := Ak (below_at (below_step HB0.out (below_step (below_step (below_step HB3.out HB7.out) HB11.out) HB15.out)) HB18.out (by show w0.heap.size ≤ g4; omega)); have HK21 := Ak (HK19.out); have KP22 := Ak (kept_new (Kept.below KP0.out (below_step (below_step (below_step HB3.out HB7.out) HB11.out) HB15.out)) HK21.out (by show w.heap.size ≤ g4; omega)); have F23 := Ak (StR.kept (StR.below HV0.out (below_step (below_step (below_step HB3.out HB7.out) HB11.out) HB15.out)) HK21.out (fun k_ h_ => (by obtain ⟨h1_, h2_⟩ := h_; omega))); have F24 := Ak (Bk.kept (Bk.below BK2.out (below_step (below_step HB7.out HB11.out) HB15.out)) HK21.out (fun h_ => (by obtain ⟨h1_, h2_⟩ := h_; omega))); have F25 := Ak (Bk.kept (Bk.below BK6.out (below_step HB11.out HB15.out)) HK21.out (fun h_ => (by obtain ⟨h1_, h2_⟩ := h_; omega))); have F26 := Ak (BK17.out); clear z0_ z1_ z2_ z3_ z4_ z5_ z6_ z7_ z8_ z9_ z10_ z11_ z12_))
 try go_wp2
 refine bodyPost_ret (results_ct rfl _ _ g4 26 #[.slice A0 s0.now.length c0, .slice A1 s0.sure.length c1, .slice A2 s0.last.length c2, .slice A3 s0.slast.length c3, .slice A4 s0.floors.length c4] (0, 0) _ rfl F26.out hu26 rfl (by kernel_rfl)) rfl ?_
 exact ⟨rfl, F23.out, HB20.out, KP22.out⟩
set_option maxHeartbeats 8000000 in
set_option maxRecDepth 100000 in
theorem spec_l5Do_pT {w0 w : World} {v0 : Value} {s0 : St} {lo hi : Nat} (hB : Below w0.heap.size w0 w) (hv0 : StR w lo hi v0 s0) (hlo : w0.heap.size ≤ lo) (hhi : hi ≤ w.heap.size) (who ep num obj at_ : Int) (data : ByteArray) (hd : data.size ≤ 9223372036854775807) (b0 : 0 ≤ who) (b1 : who < s0.floors.length) (b2 : who < s0.last.length) (b3 : 0 ≤ obj) (b4 : obj < s0.now.length) (b5 : textOk (rdOf ByteArray.empty s0.now obj) = true) (hq : reqOk ⟨who, ep, num, obj, at_, data⟩ = true) {nx : Int} (hnx : wrap64 (rd s0.last who + 1) = nx) (hn : nx = rd s0.last who + 1) {r : ByteArray} (hr : writeText (rdOf ByteArray.empty s0.now obj) at_.toNat data = r) {t : St} {c : Int} (ht : doSt s0 ⟨who, ep, num, obj, at_, data⟩ = (t, c))  :
  Calls Try.prog 51 #[v0, .agg #[.int .i64 who, .int .i64 ep, .int .i64 num, .int .i64 obj, .int .i64 at_, .string data]] w fun e w' => e = .returned (.tuple #[v0, .int .i64 c]) ∧ StR w' lo hi v0 t ∧ Below w0.heap.size w0 w' ∧ Kept w w' (fun k => lo ≤ k ∧ k < hi) := by
 have HB0 := Ak hB
 have HLO := Ak hlo
 have HHI := Ak hhi
 have HV0 := Ak hv0
 obtain ⟨A0, c0, A1, c1, A2, c2, A3, c3, A4, c4, rfl, _⟩ := hv0.toC
 have KP0 := Ak (Kept.refl w (fun k => lo ≤ k ∧ k < hi))
 clear hB hlo hhi hv0
 have HWR := Ak hr
 have HNX := Ak hn
 have HT := Ak ht
 clear hr hn ht
 have hb0 := eq_true b0
 have HN0 := Ak b0
 have hb1 := eq_true b1
 have HN1 := Ak b1
 have hb2 := eq_true b2
 have HN2 := Ak b2
 have hb3 := eq_true b3
 have HN3 := Ak b3
 have hb4 := eq_true b4
 have HN4 := Ak b4
 have HN5 := Ak b5
 clear b0 b1 b2 b3 b4 b5
 have HD := Ak hd
 have HQ := Ak hq
 clear hd hq
 obtain ⟨g1, rfl⟩ := StR.floors_form HV0.out HN0.out HN1.out; have GT2 := Ak (StR.floors_lt HV0.out); have GL3 := Ak (StR.floors_cell HV0.out HN0.out HN1.out).1; have GH4 := Ak (StR.floors_cell HV0.out HN0.out HN1.out).2.1
 obtain ⟨g5, rfl⟩ := StR.last_form HV0.out HN0.out HN2.out; have GT6 := Ak (StR.last_lt HV0.out); have GL7 := Ak (StR.last_cell HV0.out HN0.out HN2.out).1; have GH8 := Ak (StR.last_cell HV0.out HN0.out HN2.out).2.1
 obtain ⟨g9, rfl⟩ := StR.now_form HV0.out HN3.out HN4.out; have GT10 := Ak (StR.now_lt HV0.out); have GL11 := Ak (StR.now_cell HV0.out HN3.out HN4.out).1; have GH12 := Ak (StR.now_cell HV0.out HN3.out HN4.out).2.1
 have hu26 := Try.underlying26
 have hu52 := Try.underlying52
 go_enter Try.func51, Try.ntmps51
 go_wp2_with (first | ((with_reducible refine gate_dst (N := 2) rfl ?_); refine ev_box ?hg (N := 2) ?hd (cs := #[.slice (some ⟨g9, 0, none⟩) s0.now.length c0, .slice A1 s0.sure.length c1, .slice (some ⟨g5, 0, none⟩) s0.last.length c2, .slice A3 s0.slast.length c3, .slice (some ⟨g1, 0, none⟩) s0.floors.length c4]) (t := 26) ?hr ?_; (case hd => rfl); (case hg => rfl); (case hr => first | (go_simp; done) | (go_simp; rfl)); intro g2 W13 HG16 BK14 HB15) | ((with_reducible refine gate_dst (N := 3) rfl ?_); refine ev_box ?hg (N := 3) ?hd (cs := #[.int .i64 who, .int .i64 ep, .int .i64 num, .int .i64 obj, .int .i64 at_, .string data]) (t := 52) ?hr ?_; (case hd => rfl); (case hg => rfl); (case hr => first | (go_simp; done) | (go_simp; rfl)); intro g3 W17 HG20 BK18 HB19) | ((with_reducible refine gate_dst (N := 4) rfl ?_); refine ev_box ?hg (N := 4) ?hd (cs := #[.slice none 0 0, .slice none 0 0, .slice none 0 0, .slice none 0 0, .slice none 0 0]) (t := 26) ?hr ?_; (case hd => rfl); (case hg => rfl); (case hr => first | (go_simp; done) | (go_simp; rfl)); intro g4 W21 HG24 BK22 HB23) | ((with_reducible refine gate_dst (N := 7) rfl ?_); refine ev_load rfl (N := 7) rfl rfl (g := g3) rfl (cs := #[.int .i64 who, .int .i64 ep, .int .i64 num, .int .i64 obj, .int .i64 at_, .string data]) (Bk.below BK18.out HB23.out) hu52 rfl (by kernel_rfl) ?_))
 refine (spec_l5Req_c HD.out HQ.out).mono ?_
 rintro e W25 ⟨rfl, hb26⟩
 have HB27 := Ak hb26
 clear hb26
 go_wp2_with (fail)
 refine start_ (n := 10) (S := fun w' => Bk w' g3 #[.int .i64 who, .int .i64 ep, .int .i64 num, .int .i64 obj, .int .i64 at_, .string data] 52 ∧ Bk w' g2 #[.slice (some ⟨g9, 0, none⟩) s0.now.length c0, .slice A1 s0.sure.length c1, .slice (some ⟨g5, 0, none⟩) s0.last.length c2, .slice A3 s0.slast.length c3, .slice (some ⟨g1, 0, none⟩) s0.floors.length c4] 26 ∧ w'.cell? ⟨g1, who.toNat, none⟩ = some (.int .i64 (rd s0.floors who))) (ds := []) #[false, false, false, false, false, false, false, false, false, false] (by kernel_rfl) rfl rfl ⟨(show Bk W25 g3 #[.int .i64 who, .int .i64 ep, .int .i64 num, .int .i64 obj, .int .i64 at_, .string data] 52 from (Bk.below BK18.out (below_step HB23.out HB27.out))), (show Bk W25 g2 #[.slice (some ⟨g9, 0, none⟩) s0.now.length c0, .slice A1 s0.sure.length c1, .slice (some ⟨g5, 0, none⟩) s0.last.length c2, .slice A3 s0.slast.length c3, .slice (some ⟨g1, 0, none⟩) s0.floors.length c4] 26 from (Bk.below BK14.out (below_step (below_step HB19.out HB23.out) HB27.out))), (show W25.cell? ⟨g1, who.toNat, none⟩ = some (.int .i64 (rd s0.floors who)) from (StR.floors_cell (StR.below HV0.out (below_step (below_step (below_step HB15.out HB19.out) HB23.out) HB27.out)) HN0.out HN1.out).2.2.1)⟩ (fun hHeld => ?_)
 clear hHeld
 refine world_at (w := W25) (below_drew0 _) (fun W28 HB29 => ?_)
 refine pure_ (i := 0) (N := some 12) (v := ?_) (a' := ?_) #[T0, F0, F0, F0, F0, F0, F0, F0, F0, F0] rfl rfl (by kernel_rfl) (fun _ _ _ h => h) (Or.inl ⟨by rfl, ?_⟩) ?_ ?_
 rotate_left
 ·intro w'
  go_simp
  with_reducible rfl
 rotate_left
 ·simp only [Act.put, zzA, zzB, zzC, i64_w, i32_w]
  rfl
 refine take_ (i := 1) (N := some 13) (v := .int .i64 ep) (a' := ?_) #[T0, T0, F0, F0, F0, F0, F0, F0, F0, F0] rfl rfl (by kernel_rfl) (fun _ _ _ h => h) (Or.inl ⟨by rfl, ?_⟩) ⟨(Bk.below BK18.out (below_step (below_step HB23.out HB27.out) HB29.out)), (Bk.below BK14.out (below_step (below_step (below_step HB19.out HB23.out) HB27.out) HB29.out)), (show W28.cell? ⟨g1, who.toNat, none⟩ = some (.int .i64 (rd s0.floors who)) from (StR.floors_cell (StR.below HV0.out (below_step (below_step (below_step (below_step HB15.out HB19.out) HB23.out) HB27.out) HB29.out)) HN0.out HN1.out).2.2.1)⟩ ?_ ?_
 ·rintro w' ⟨s0_, s1_, s2_⟩
  have hc_ : w'.cell? ⟨g3, 1, none⟩ = some (.int .i64 ep) := (Bk.cell s0_ 1).trans rfl
  first | (go_simp; done) | (go_simp; with_reducible rfl) | (go_simp; rfl)
 rotate_left
 ·simp only [Act.put, zzA, zzB, zzC, i64_w, i32_w]
  rfl
 refine pure_ (i := 2) (N := some 14) (v := ?_) (a' := ?_) #[T0, T0, T0, F0, F0, F0, F0, F0, F0, F0] rfl rfl (by kernel_rfl) (fun _ _ _ h => h) (Or.inl ⟨by rfl, ?_⟩) ?_ ?_
 rotate_left
 ·intro w'
  go_simp
  with_reducible rfl
 rotate_left
 ·simp only [Act.put, zzA, zzB, zzC, i64_w, i32_w]
  rfl
 refine take_ (i := 3) (N := some 15) (v := .slice (some ⟨g1, 0, none⟩) s0.floors.length c4) (a' := ?_) #[T0, T0, T0, T0, F0, F0, F0, F0, F0, F0] rfl rfl (by kernel_rfl) (fun _ _ _ h => h) (Or.inl ⟨by rfl, ?_⟩) ⟨(Bk.below BK18.out (below_step (below_step HB23.out HB27.out) HB29.out)), (Bk.below BK14.out (below_step (below_step (below_step HB19.out HB23.out) HB27.out) HB29.out)), (show W28.cell? ⟨g1, who.toNat, none⟩ = some (.int .i64 (rd s0.floors who)) from (StR.floors_cell (StR.below HV0.out (below_step (below_step (below_step (below_step HB15.out HB19.out) HB23.out) HB27.out) HB29.out)) HN0.out HN1.out).2.2.1)⟩ ?_ ?_
 ·rintro w' ⟨s0_, s1_, s2_⟩
  have hc_ : w'.cell? ⟨g2, 4, none⟩ = some (.slice (some ⟨g1, 0, none⟩) s0.floors.length c4) := (Bk.cell s1_ 4).trans rfl
  first | (go_simp; done) | (go_simp; with_reducible rfl) | (go_simp; rfl)
 rotate_left
 ·simp only [Act.put, zzA, zzB, zzC, i64_w, i32_w]
  rfl
 refine pure_ (i := 4) (N := some 16) (v := ?_) (a' := ?_) #[T0, T0, T0, T0, T0, F0, F0, F0, F0, F0] rfl rfl (by kernel_rfl) (fun _ _ _ h => h) (Or.inl ⟨by rfl, ?_⟩) ?_ ?_
 rotate_left
 ·intro w'
  go_simp
  with_reducible rfl
 rotate_left
 ·simp only [Act.put, zzA, zzB, zzC, i64_w, i32_w]
  rfl
 refine take_ (i := 5) (N := some 17) (v := .int .i64 who) (a' := ?_) #[T0, T0, T0, T0, T0, T0, F0, F0, F0, F0] rfl rfl (by kernel_rfl) (fun _ _ _ h => h) (Or.inl ⟨by rfl, ?_⟩) ⟨(Bk.below BK18.out (below_step (below_step HB23.out HB27.out) HB29.out)), (Bk.below BK14.out (below_step (below_step (below_step HB19.out HB23.out) HB27.out) HB29.out)), (show W28.cell? ⟨g1, who.toNat, none⟩ = some (.int .i64 (rd s0.floors who)) from (StR.floors_cell (StR.below HV0.out (below_step (below_step (below_step (below_step HB15.out HB19.out) HB23.out) HB27.out) HB29.out)) HN0.out HN1.out).2.2.1)⟩ ?_ ?_
 ·rintro w' ⟨s0_, s1_, s2_⟩
  have hc_ : w'.cell? ⟨g3, 0, none⟩ = some (.int .i64 who) := (Bk.cell s0_ 0).trans rfl
  first | (go_simp; done) | (go_simp; with_reducible rfl) | (go_simp; rfl)
 rotate_left
 ·simp only [Act.put, zzA, zzB, zzC, i64_w, i32_w]
  rfl
 refine pure_ (i := 6) (N := some 18) (v := ?_) (a' := ?_) #[T0, T0, T0, T0, T0, T0, T0, F0, F0, F0] rfl rfl (by kernel_rfl) (fun _ _ _ h => h) (Or.inl ⟨by rfl, ?_⟩) ?_ ?_
 rotate_left
 ·intro w'
  go_simp
  with_reducible rfl
 rotate_left
 ·simp only [Act.put, zzA, zzB, zzC, i64_w, i32_w]
  rfl
 refine take_ (i := 7) (N := some 19) (v := .int .i64 (rd s0.floors who)) (a' := ?_) #[T0, T0, T0, T0, T0, T0, T0, T0, F0, F0] rfl rfl (by kernel_rfl) (fun _ _ _ h => h) (Or.inl ⟨by rfl, ?_⟩) ⟨(Bk.below BK18.out (below_step (below_step HB23.out HB27.out) HB29.out)), (Bk.below BK14.out (below_step (below_step (below_step HB19.out HB23.out) HB27.out) HB29.out)), (show W28.cell? ⟨g1, who.toNat, none⟩ = some (.int .i64 (rd s0.floors who)) from (StR.floors_cell (StR.below HV0.out (below_step (below_step (below_step (below_step HB15.out HB19.out) HB23.out) HB27.out) HB29.out)) HN0.out HN1.out).2.2.1)⟩ ?_ ?_
 ·rintro w' ⟨s0_, s1_, s2_⟩
  first | (go_simp; done) | (go_simp; with_reducible rfl) | (go_simp; rfl)
 rotate_left
 ·simp only [Act.put, zzA, zzB, zzC, i64_w, i32_w]
  rfl
 refine pure_ (i := 8) (N := some 20) (v := ?_) (a' := ?_) #[T0, T0, T0, T0, T0, T0, T0, T0, T0, F0] rfl rfl (by kernel_rfl) (fun _ _ _ h => h) (Or.inl ⟨by rfl, ?_⟩) ?_ ?_
 rotate_left
 ·intro w'
  go_simp
  with_reducible rfl
 rotate_left
 ·simp only [Act.put, zzA, zzB, zzC, i64_w, i32_w]
  rfl
 refine pure_ (i := 9) (N := some 11) (v := ?_) (a' := ?_) #[T0, T0, T0, T0, T0, T0, T0, T0, T0, T0] rfl rfl (by kernel_rfl) (fun _ _ _ h => h) (Or.inl ⟨by rfl, ?_⟩) ?_ ?_
 rotate_left
 ·intro w'
  go_simp
  with_reducible rfl
 rotate_left
 ·simp only [Act.put, zzA, zzB, zzC, i64_w, i32_w]
  rfl
 refine done_ (by kernel_rfl) ?_
 go_upto_if 11 with (fail)
 by_cases c30 : ep < (rd s0.floors who)
 ·have d31 : decide (ep < (rd s0.floors who)) = true := decide_eq_true c30
  (first | rw [d31] | (simp only [i64_w, i32_w]; rw [d31]) | skip)
  have K32 := Ak c30
  clear c30
  go_wp2_with (first | ((with_reducible refine gate_dst (N := 21) rfl ?_); refine ev_load rfl (N := 21) rfl rfl (g := g2) rfl (cs := #[.slice (some ⟨g9, 0, none⟩) s0.now.length c0, .slice A1 s0.sure.length c1, .slice (some ⟨g5, 0, none⟩) s0.last.length c2, .slice A3 s0.slast.length c3, .slice (some ⟨g1, 0, none⟩) s0.floors.length c4]) (Bk.below BK14.out (below_step (below_step (below_step HB19.out HB23.out) HB27.out) HB29.out)) hu26 rfl (by kernel_rfl) ?_) | ((with_reducible refine gate_store (t := 26) (p := 4) rfl ?_); refine ev_put (by rfl) rfl rfl (g := g4) rfl (cs := #[.slice (some ⟨g9, 0, none⟩) s0.now.length c0, .slice A1 s0.sure.length c1, .slice (some ⟨g5, 0, none⟩) s0.last.length c2, .slice A3 s0.slast.length c3, .slice (some ⟨g1, 0, none⟩) s0.floors.length c4]) rfl (Bk.below BK22.out (below_step HB27.out HB29.out)) (by kernel_rfl) rfl rfl ?_; intro W33 BK34 HB35 HK36; have z0_ := HLO.out; have z1_ := HHI.out; have z2_ := HB0.out.size; have z3_ := GT2.out; have z4_ := GL3.out; have z5_ := GH4.out; have z6_ := GT6.out; have z7_ := GL7.out; have z8_ := GH8.out; have z9_ := GT10.out; have z10_ := GL11.out; have z11_ := GH12.out; have z12_ := HB15.out.size; have z13_ := HG16.out; have z14_ := BK14.out.lt; have z15_ := HB19.out.size; have z16_ := HG20.out; have z17_ := BK18.out.lt; have z18_ := HB23.out.size; have z19_ := HG24.out; have z20_ := BK22.out.lt; have z21_ := HB27.out.size; have z22_ := HB29.out.size; have HB37 := Ak (below_at (below_step HB0.out (below_step (below_step (below_step (below_step HB15.out HB19.out) HB23.out) HB27.out) HB29.out)) HB35.out (by show w0.heap.size ≤ g4; omega)); have HK38 := Ak (HK36.out); have KP39 := Ak (kept_new (Kept.below KP0.out (below_step (below_step (below_step (below_step HB15.out HB19.out) HB23.out) HB27.out) HB29.out)) HK38.out (by show w.heap.size ≤ g4; omega)); have F40 := Ak (StR.kept (StR.below HV0.out (below_step (below_step (below_step (below_step HB15.out HB19.out) HB23.out) HB27.out) HB29.out)) HK38.out (fun k_ h_ => (by obtain ⟨h1_, h2_⟩ := h_; omega))); have F41 := Ak (Bk.kept (Bk.below BK14.out (below_step (below_step (below_step HB19.out HB23.out) HB27.out) HB29.out)) HK38.out (fun h_ => (by obtain ⟨h1_, h2_⟩ := h_; omega))); have F42 := Ak (Bk.kept (Bk.below BK18.out (below_step (below_step HB23.out HB27.out) HB29.out)) HK38.out (fun h_ => (by obtain ⟨h1_, h2_⟩ := h_; omega))); have F43 := Ak (BK34.out); clear z0_ z1_ z2_ z3_ z4_ z5_ z6_ z7_ z8_ z9_ z10_ z11_ z12_ z13_ z14_ z15_ z16_ z17_ z18_ z19_ z20_ z21_ z22_))
  obtain ⟨et_, ec_⟩ := doSt_w2 HT.out HQ.out K32.out
  subst t
  subst c
  go_wp2_with (fail)
  try go_wp2
  refine bodyPost_ret (results_ct rfl _ _ g4 26 #[.slice (some ⟨g9, 0, none⟩) s0.now.length c0, .slice A1 s0.sure.length c1, .slice (some ⟨g5, 0, none⟩) s0.last.length c2, .slice A3 s0.slast.length c3, .slice (some ⟨g1, 0, none⟩) s0.floors.length c4] (0, 0) _ rfl F43.out hu26 rfl (by kernel_rfl)) rfl ?_
  exact ⟨rfl, F40.out, HB37.out, KP39.out⟩
 ·have d31 : decide (ep < (rd s0.floors who)) = false := decide_eq_false c30
  (first | rw [d31] | (simp only [i64_w, i32_w]; rw [d31]) | skip)
  have K32 := Ak c30
  clear c30
  go_wp2_with (fail)
  refine start_ (n := 10) (S := fun w' => Bk w' g3 #[.int .i64 who, .int .i64 ep, .int .i64 num, .int .i64 obj, .int .i64 at_, .string data] 52 ∧ Bk w' g2 #[.slice (some ⟨g9, 0, none⟩) s0.now.length c0, .slice A1 s0.sure.length c1, .slice (some ⟨g5, 0, none⟩) s0.last.length c2, .slice A3 s0.slast.length c3, .slice (some ⟨g1, 0, none⟩) s0.floors.length c4] 26 ∧ w'.cell? ⟨g5, who.toNat, none⟩ = some (.int .i64 (rd s0.last who))) (ds := []) #[false, false, false, false, false, false, false, false, false, false] (by kernel_rfl) rfl rfl ⟨(show Bk W28 g3 #[.int .i64 who, .int .i64 ep, .int .i64 num, .int .i64 obj, .int .i64 at_, .string data] 52 from (Bk.below BK18.out (below_step (below_step HB23.out HB27.out) HB29.out))), (show Bk W28 g2 #[.slice (some ⟨g9, 0, none⟩) s0.now.length c0, .slice A1 s0.sure.length c1, .slice (some ⟨g5, 0, none⟩) s0.last.length c2, .slice A3 s0.slast.length c3, .slice (some ⟨g1, 0, none⟩) s0.floors.length c4] 26 from (Bk.below BK14.out (below_step (below_step (below_step HB19.out HB23.out) HB27.out) HB29.out))), (show W28.cell? ⟨g5, who.toNat, none⟩ = some (.int .i64 (rd s0.last who)) from (StR.last_cell (StR.below HV0.out (below_step (below_step (below_step (below_step HB15.out HB19.out) HB23.out) HB27.out) HB29.out)) HN0.out HN2.out).2.2.1)⟩ (fun hHeld => ?_)
  clear hHeld
  refine world_at (w := W28) (below_drew0 _) (fun W44 HB45 => ?_)
  refine pure_ (i := 0) (N := some 23) (v := ?_) (a' := ?_) #[T0, F0, F0, F0, F0, F0, F0, F0, F0, F0] rfl rfl (by kernel_rfl) (fun _ _ _ h => h) (Or.inl ⟨by rfl, ?_⟩) ?_ ?_
  rotate_left
  ·intro w'
   go_simp
   with_reducible rfl
  rotate_left
  ·simp only [Act.put, zzA, zzB, zzC, i64_w, i32_w]
   rfl
  refine take_ (i := 1) (N := some 24) (v := .int .i64 num) (a' := ?_) #[T0, T0, F0, F0, F0, F0, F0, F0, F0, F0] rfl rfl (by kernel_rfl) (fun _ _ _ h => h) (Or.inl ⟨by rfl, ?_⟩) ⟨(Bk.below BK18.out (below_step (below_step (below_step HB23.out HB27.out) HB29.out) HB45.out)), (Bk.below BK14.out (below_step (below_step (below_step (below_step HB19.out HB23.out) HB27.out) HB29.out) HB45.out)), (show W44.cell? ⟨g5, who.toNat, none⟩ = some (.int .i64 (rd s0.last who)) from (StR.last_cell (StR.below HV0.out (below_step (below_step (below_step (below_step (below_step HB15.out HB19.out) HB23.out) HB27.out) HB29.out) HB45.out)) HN0.out HN2.out).2.2.1)⟩ ?_ ?_
  ·rintro w' ⟨s0_, s1_, s2_⟩
   have hc_ : w'.cell? ⟨g3, 2, none⟩ = some (.int .i64 num) := (Bk.cell s0_ 2).trans rfl
   first | (go_simp; done) | (go_simp; with_reducible rfl) | (go_simp; rfl)
  rotate_left
  ·simp only [Act.put, zzA, zzB, zzC, i64_w, i32_w]
   rfl
  refine pure_ (i := 2) (N := some 25) (v := ?_) (a' := ?_) #[T0, T0, T0, F0, F0, F0, F0, F0, F0, F0] rfl rfl (by kernel_rfl) (fun _ _ _ h => h) (Or.inl ⟨by rfl, ?_⟩) ?_ ?_
  rotate_left
  ·intro w'
   go_simp
   with_reducible rfl
  rotate_left
  ·simp only [Act.put, zzA, zzB, zzC, i64_w, i32_w]
   rfl
  refine take_ (i := 3) (N := some 26) (v := .slice (some ⟨g5, 0, none⟩) s0.last.length c2) (a' := ?_) #[T0, T0, T0, T0, F0, F0, F0, F0, F0, F0] rfl rfl (by kernel_rfl) (fun _ _ _ h => h) (Or.inl ⟨by rfl, ?_⟩) ⟨(Bk.below BK18.out (below_step (below_step (below_step HB23.out HB27.out) HB29.out) HB45.out)), (Bk.below BK14.out (below_step (below_step (below_step (below_step HB19.out HB23.out) HB27.out) HB29.out) HB45.out)), (show W44.cell? ⟨g5, who.toNat, none⟩ = some (.int .i64 (rd s0.last who)) from (StR.last_cell (StR.below HV0.out (below_step (below_step (below_step (below_step (below_step HB15.out HB19.out) HB23.out) HB27.out) HB29.out) HB45.out)) HN0.out HN2.out).2.2.1)⟩ ?_ ?_
  ·rintro w' ⟨s0_, s1_, s2_⟩
   have hc_ : w'.cell? ⟨g2, 2, none⟩ = some (.slice (some ⟨g5, 0, none⟩) s0.last.length c2) := (Bk.cell s1_ 2).trans rfl
   first | (go_simp; done) | (go_simp; with_reducible rfl) | (go_simp; rfl)
  rotate_left
  ·simp only [Act.put, zzA, zzB, zzC, i64_w, i32_w]
   rfl
  refine pure_ (i := 4) (N := some 27) (v := ?_) (a' := ?_) #[T0, T0, T0, T0, T0, F0, F0, F0, F0, F0] rfl rfl (by kernel_rfl) (fun _ _ _ h => h) (Or.inl ⟨by rfl, ?_⟩) ?_ ?_
  rotate_left
  ·intro w'
   go_simp
   with_reducible rfl
  rotate_left
  ·simp only [Act.put, zzA, zzB, zzC, i64_w, i32_w]
   rfl
  refine take_ (i := 5) (N := some 28) (v := .int .i64 who) (a' := ?_) #[T0, T0, T0, T0, T0, T0, F0, F0, F0, F0] rfl rfl (by kernel_rfl) (fun _ _ _ h => h) (Or.inl ⟨by rfl, ?_⟩) ⟨(Bk.below BK18.out (below_step (below_step (below_step HB23.out HB27.out) HB29.out) HB45.out)), (Bk.below BK14.out (below_step (below_step (below_step (below_step HB19.out HB23.out) HB27.out) HB29.out) HB45.out)), (show W44.cell? ⟨g5, who.toNat, none⟩ = some (.int .i64 (rd s0.last who)) from (StR.last_cell (StR.below HV0.out (below_step (below_step (below_step (below_step (below_step HB15.out HB19.out) HB23.out) HB27.out) HB29.out) HB45.out)) HN0.out HN2.out).2.2.1)⟩ ?_ ?_
  ·rintro w' ⟨s0_, s1_, s2_⟩
   have hc_ : w'.cell? ⟨g3, 0, none⟩ = some (.int .i64 who) := (Bk.cell s0_ 0).trans rfl
   first | (go_simp; done) | (go_simp; with_reducible rfl) | (go_simp; rfl)
  rotate_left
  ·simp only [Act.put, zzA, zzB, zzC, i64_w, i32_w]
   rfl
  refine pure_ (i := 6) (N := some 29) (v := ?_) (a' := ?_) #[T0, T0, T0, T0, T0, T0, T0, F0, F0, F0] rfl rfl (by kernel_rfl) (fun _ _ _ h => h) (Or.inl ⟨by rfl, ?_⟩) ?_ ?_
  rotate_left
  ·intro w'
   go_simp
   with_reducible rfl
  rotate_left
  ·simp only [Act.put, zzA, zzB, zzC, i64_w, i32_w]
   rfl
  refine take_ (i := 7) (N := some 30) (v := .int .i64 (rd s0.last who)) (a' := ?_) #[T0, T0, T0, T0, T0, T0, T0, T0, F0, F0] rfl rfl (by kernel_rfl) (fun _ _ _ h => h) (Or.inl ⟨by rfl, ?_⟩) ⟨(Bk.below BK18.out (below_step (below_step (below_step HB23.out HB27.out) HB29.out) HB45.out)), (Bk.below BK14.out (below_step (below_step (below_step (below_step HB19.out HB23.out) HB27.out) HB29.out) HB45.out)), (show W44.cell? ⟨g5, who.toNat, none⟩ = some (.int .i64 (rd s0.last who)) from (StR.last_cell (StR.below HV0.out (below_step (below_step (below_step (below_step (below_step HB15.out HB19.out) HB23.out) HB27.out) HB29.out) HB45.out)) HN0.out HN2.out).2.2.1)⟩ ?_ ?_
  ·rintro w' ⟨s0_, s1_, s2_⟩
   first | (go_simp; done) | (go_simp; with_reducible rfl) | (go_simp; rfl)
  rotate_left
  ·simp only [Act.put, zzA, zzB, zzC, i64_w, i32_w]
   rfl
  refine pure_ (i := 8) (N := some 31) (v := ?_) (a' := ?_) #[T0, T0, T0, T0, T0, T0, T0, T0, T0, F0] rfl rfl (by kernel_rfl) (fun _ _ _ h => h) (Or.inl ⟨by rfl, ?_⟩) ?_ ?_
  rotate_left
  ·intro w'
   go_simp
   with_reducible rfl
  rotate_left
  ·simp only [Act.put, zzA, zzB, zzC, i64_w, i32_w]
   rfl
  refine pure_ (i := 9) (N := some 22) (v := ?_) (a' := ?_) #[T0, T0, T0, T0, T0, T0, T0, T0, T0, T0] rfl rfl (by kernel_rfl) (fun _ _ _ h => h) (Or.inl ⟨by rfl, ?_⟩) ?_ ?_
  rotate_left
  ·intro w'
   go_simp
   with_reducible rfl
  rotate_left
  ·simp only [Act.put, zzA, zzB, zzC, i64_w, i32_w]
   rfl
  refine done_ (by kernel_rfl) ?_
  go_upto_if 22 with (fail)
  by_cases c46 : num ≤ (rd s0.last who)
  ·have d47 : decide (num ≤ (rd s0.last who)) = true := decide_eq_true c46
   (first | rw [d47] | (simp only [i64_w, i32_w]; rw [d47]) | skip)
   have K48 := Ak c46
   clear c46
   go_wp2_with (first | ((with_reducible refine gate_dst (N := 32) rfl ?_); refine ev_load rfl (N := 32) rfl rfl (g := g2) rfl (cs := #[.slice (some ⟨g9, 0, none⟩) s0.now.length c0, .slice A1 s0.sure.length c1, .slice (some ⟨g5, 0, none⟩) s0.last.length c2, .slice A3 s0.slast.length c3, .slice (some ⟨g1, 0, none⟩) s0.floors.length c4]) (Bk.below BK14.out (below_step (below_step (below_step (below_step HB19.out HB23.out) HB27.out) HB29.out) HB45.out)) hu26 rfl (by kernel_rfl) ?_) | ((with_reducible refine gate_store (t := 26) (p := 4) rfl ?_); refine ev_put (by rfl) rfl rfl (g := g4) rfl (cs := #[.slice (some ⟨g9, 0, none⟩) s0.now.length c0, .slice A1 s0.sure.length c1, .slice (some ⟨g5, 0, none⟩) s0.last.length c2, .slice A3 s0.slast.length c3, .slice (some ⟨g1, 0, none⟩) s0.floors.length c4]) rfl (Bk.below BK22.out (below_step (below_step HB27.out HB29.out) HB45.out)) (by kernel_rfl) rfl rfl ?_; intro W49 BK50 HB51 HK52; have z0_ := HLO.out; have z1_ := HHI.out; have z2_ := HB0.out.size; have z3_ := GT2.out; have z4_ := GL3.out; have z5_ := GH4.out; have z6_ := GT6.out; have z7_ := GL7.out; have z8_ := GH8.out; have z9_ := GT10.out; have z10_ := GL11.out; have z11_ := GH12.out; have z12_ := HB15.out.size; have z13_ := HG16.out; have z14_ := BK14.out.lt; have z15_ := HB19.out.size; have z16_ := HG20.out; have z17_ := BK18.out.lt; have z18_ := HB23.out.size; have z19_ := HG24.out; have z20_ := BK22.out.lt; have z21_ := HB27.out.size; have z22_ := HB29.out.size; have z23_ := HB45.out.size; have HB53 := Ak (below_at (below_step HB0.out (below_step (below_step (below_step (below_step (below_step HB15.out HB19.out) HB23.out) HB27.out) HB29.out) HB45.out)) HB51.out (by show w0.heap.size ≤ g4; omega)); have HK54 := Ak (HK52.out); have KP55 := Ak (kept_new (Kept.below KP0.out (below_step (below_step (below_step (below_step (below_step HB15.out HB19.out) HB23.out) HB27.out) HB29.out) HB45.out)) HK54.out (by show w.heap.size ≤ g4; omega)); have F56 := Ak (StR.kept (StR.below HV0.out (below_step (below_step (below_step (below_step (below_step HB15.out HB19.out) HB23.out) HB27.out) HB29.out) HB45.out)) HK54.out (fun k_ h_ => (by obtain ⟨h1_, h2_⟩ := h_; omega))); have F57 := Ak (Bk.kept (Bk.below BK14.out (below_step (below_step (below_step (below_step HB19.out HB23.out) HB27.out) HB29.out) HB45.out)) HK54.out (fun h_ => (by obtain ⟨h1_, h2_⟩ := h_; omega))); have F58 := Ak (Bk.kept (Bk.below BK18.out (below_step (below_step (below_step HB23.out HB27.out) HB29.out) HB45.out)) HK54.out (fun h_ => (by obtain ⟨h1_, h2_⟩ := h_; omega))); have F59 := Ak (BK50.out); clear z0_ z1_ z2_ z3_ z4_ z5_ z6_ z7_ z8_ z9_ z10_ z11_ z12_ z13_ z14_ z15_ z16_ z17_ z18_ z19_ z20_ z21_ z22_ z23_))
   obtain ⟨et_, ec_⟩ := doSt_w3 HT.out HQ.out (by have h_ := K32.out; omega) K48.out
   subst t
   subst c
   go_wp2_with (fail)
   try go_wp2
   refine bodyPost_ret (results_ct rfl _ _ g4 26 #[.slice (some ⟨g9, 0, none⟩) s0.now.length c0, .slice A1 s0.sure.length c1, .slice (some ⟨g5, 0, none⟩) s0.last.length c2, .slice A3 s0.slast.length c3, .slice (some ⟨g1, 0, none⟩) s0.floors.length c4] (0, 0) _ rfl F59.out hu26 rfl (by kernel_rfl)) rfl ?_
   exact ⟨rfl, F56.out, HB53.out, KP55.out⟩
  ·have d47 : decide (num ≤ (rd s0.last who)) = false := decide_eq_false c46
   (first | rw [d47] | (simp only [i64_w, i32_w]; rw [d47]) | skip)
   have K48 := Ak c46
   clear c46
   go_wp2_with (fail)
   refine start_ (n := 11) (S := fun w' => Bk w' g3 #[.int .i64 who, .int .i64 ep, .int .i64 num, .int .i64 obj, .int .i64 at_, .string data] 52 ∧ Bk w' g2 #[.slice (some ⟨g9, 0, none⟩) s0.now.length c0, .slice A1 s0.sure.length c1, .slice (some ⟨g5, 0, none⟩) s0.last.length c2, .slice A3 s0.slast.length c3, .slice (some ⟨g1, 0, none⟩) s0.floors.length c4] 26 ∧ w'.cell? ⟨g5, who.toNat, none⟩ = some (.int .i64 (rd s0.last who))) (ds := []) #[false, false, false, false, false, false, false, false, false, false, false] (by kernel_rfl) rfl rfl ⟨(show Bk W44 g3 #[.int .i64 who, .int .i64 ep, .int .i64 num, .int .i64 obj, .int .i64 at_, .string data] 52 from (Bk.below BK18.out (below_step (below_step (below_step HB23.out HB27.out) HB29.out) HB45.out))), (show Bk W44 g2 #[.slice (some ⟨g9, 0, none⟩) s0.now.length c0, .slice A1 s0.sure.length c1, .slice (some ⟨g5, 0, none⟩) s0.last.length c2, .slice A3 s0.slast.length c3, .slice (some ⟨g1, 0, none⟩) s0.floors.length c4] 26 from (Bk.below BK14.out (below_step (below_step (below_step (below_step HB19.out HB23.out) HB27.out) HB29.out) HB45.out))), (show W44.cell? ⟨g5, who.toNat, none⟩ = some (.int .i64 (rd s0.last who)) from (StR.last_cell (StR.below HV0.out (below_step (below_step (below_step (below_step (below_step HB15.out HB19.out) HB23.out) HB27.out) HB29.out) HB45.out)) HN0.out HN2.out).2.2.1)⟩ (fun hHeld => ?_)
   clear hHeld
   refine world_at (w := W44) (below_drew0 _) (fun W60 HB61 => ?_)
   refine pure_ (i := 0) (N := some 34) (v := ?_) (a' := ?_) #[T0, F0, F0, F0, F0, F0, F0, F0, F0, F0, F0] rfl rfl (by kernel_rfl) (fun _ _ _ h => h) (Or.inl ⟨by rfl, ?_⟩) ?_ ?_
   rotate_left
   ·intro w'
    go_simp
    with_reducible rfl
   rotate_left
   ·simp only [Act.put, zzA, zzB, zzC, i64_w, i32_w]
    rfl
   refine take_ (i := 1) (N := some 35) (v := .int .i64 num) (a' := ?_) #[T0, T0, F0, F0, F0, F0, F0, F0, F0, F0, F0] rfl rfl (by kernel_rfl) (fun _ _ _ h => h) (Or.inl ⟨by rfl, ?_⟩) ⟨(Bk.below BK18.out (below_step (below_step (below_step (below_step HB23.out HB27.out) HB29.out) HB45.out) HB61.out)), (Bk.below BK14.out (below_step (below_step (below_step (below_step (below_step HB19.out HB23.out) HB27.out) HB29.out) HB45.out) HB61.out)), (show W60.cell? ⟨g5, who.toNat, none⟩ = some (.int .i64 (rd s0.last who)) from (StR.last_cell (StR.below HV0.out (below_step (below_step (below_step (below_step (below_step (below_step HB15.out HB19.out) HB23.out) HB27.out) HB29.out) HB45.out) HB61.out)) HN0.out HN2.out).2.2.1)⟩ ?_ ?_
   ·rintro w' ⟨s0_, s1_, s2_⟩
    have hc_ : w'.cell? ⟨g3, 2, none⟩ = some (.int .i64 num) := (Bk.cell s0_ 2).trans rfl
    first | (go_simp; done) | (go_simp; with_reducible rfl) | (go_simp; rfl)
   rotate_left
   ·simp only [Act.put, zzA, zzB, zzC, i64_w, i32_w]
    rfl
   refine pure_ (i := 2) (N := some 36) (v := ?_) (a' := ?_) #[T0, T0, T0, F0, F0, F0, F0, F0, F0, F0, F0] rfl rfl (by kernel_rfl) (fun _ _ _ h => h) (Or.inl ⟨by rfl, ?_⟩) ?_ ?_
   rotate_left
   ·intro w'
    go_simp
    with_reducible rfl
   rotate_left
   ·simp only [Act.put, zzA, zzB, zzC, i64_w, i32_w]
    rfl
   refine take_ (i := 3) (N := some 37) (v := .slice (some ⟨g5, 0, none⟩) s0.last.length c2) (a' := ?_) #[T0, T0, T0, T0, F0, F0, F0, F0, F0, F0, F0] rfl rfl (by kernel_rfl) (fun _ _ _ h => h) (Or.inl ⟨by rfl, ?_⟩) ⟨(Bk.below BK18.out (below_step (below_step (below_step (below_step HB23.out HB27.out) HB29.out) HB45.out) HB61.out)), (Bk.below BK14.out (below_step (below_step (below_step (below_step (below_step HB19.out HB23.out) HB27.out) HB29.out) HB45.out) HB61.out)), (show W60.cell? ⟨g5, who.toNat, none⟩ = some (.int .i64 (rd s0.last who)) from (StR.last_cell (StR.below HV0.out (below_step (below_step (below_step (below_step (below_step (below_step HB15.out HB19.out) HB23.out) HB27.out) HB29.out) HB45.out) HB61.out)) HN0.out HN2.out).2.2.1)⟩ ?_ ?_
   ·rintro w' ⟨s0_, s1_, s2_⟩
    have hc_ : w'.cell? ⟨g2, 2, none⟩ = some (.slice (some ⟨g5, 0, none⟩) s0.last.length c2) := (Bk.cell s1_ 2).trans rfl
    first | (go_simp; done) | (go_simp; with_reducible rfl) | (go_simp; rfl)
   rotate_left
   ·simp only [Act.put, zzA, zzB, zzC, i64_w, i32_w]
    rfl
   refine pure_ (i := 4) (N := some 38) (v := ?_) (a' := ?_) #[T0, T0, T0, T0, T0, F0, F0, F0, F0, F0, F0] rfl rfl (by kernel_rfl) (fun _ _ _ h => h) (Or.inl ⟨by rfl, ?_⟩) ?_ ?_
   rotate_left
   ·intro w'
    go_simp
    with_reducible rfl
   rotate_left
   ·simp only [Act.put, zzA, zzB, zzC, i64_w, i32_w]
    rfl
   refine take_ (i := 5) (N := some 39) (v := .int .i64 who) (a' := ?_) #[T0, T0, T0, T0, T0, T0, F0, F0, F0, F0, F0] rfl rfl (by kernel_rfl) (fun _ _ _ h => h) (Or.inl ⟨by rfl, ?_⟩) ⟨(Bk.below BK18.out (below_step (below_step (below_step (below_step HB23.out HB27.out) HB29.out) HB45.out) HB61.out)), (Bk.below BK14.out (below_step (below_step (below_step (below_step (below_step HB19.out HB23.out) HB27.out) HB29.out) HB45.out) HB61.out)), (show W60.cell? ⟨g5, who.toNat, none⟩ = some (.int .i64 (rd s0.last who)) from (StR.last_cell (StR.below HV0.out (below_step (below_step (below_step (below_step (below_step (below_step HB15.out HB19.out) HB23.out) HB27.out) HB29.out) HB45.out) HB61.out)) HN0.out HN2.out).2.2.1)⟩ ?_ ?_
   ·rintro w' ⟨s0_, s1_, s2_⟩
    have hc_ : w'.cell? ⟨g3, 0, none⟩ = some (.int .i64 who) := (Bk.cell s0_ 0).trans rfl
    first | (go_simp; done) | (go_simp; with_reducible rfl) | (go_simp; rfl)
   rotate_left
   ·simp only [Act.put, zzA, zzB, zzC, i64_w, i32_w]
    rfl
   refine pure_ (i := 6) (N := some 40) (v := ?_) (a' := ?_) #[T0, T0, T0, T0, T0, T0, T0, F0, F0, F0, F0] rfl rfl (by kernel_rfl) (fun _ _ _ h => h) (Or.inl ⟨by rfl, ?_⟩) ?_ ?_
   rotate_left
   ·intro w'
    go_simp
    with_reducible rfl
   rotate_left
   ·simp only [Act.put, zzA, zzB, zzC, i64_w, i32_w]
    rfl
   refine take_ (i := 7) (N := some 41) (v := .int .i64 (rd s0.last who)) (a' := ?_) #[T0, T0, T0, T0, T0, T0, T0, T0, F0, F0, F0] rfl rfl (by kernel_rfl) (fun _ _ _ h => h) (Or.inl ⟨by rfl, ?_⟩) ⟨(Bk.below BK18.out (below_step (below_step (below_step (below_step HB23.out HB27.out) HB29.out) HB45.out) HB61.out)), (Bk.below BK14.out (below_step (below_step (below_step (below_step (below_step HB19.out HB23.out) HB27.out) HB29.out) HB45.out) HB61.out)), (show W60.cell? ⟨g5, who.toNat, none⟩ = some (.int .i64 (rd s0.last who)) from (StR.last_cell (StR.below HV0.out (below_step (below_step (below_step (below_step (below_step (below_step HB15.out HB19.out) HB23.out) HB27.out) HB29.out) HB45.out) HB61.out)) HN0.out HN2.out).2.2.1)⟩ ?_ ?_
   ·rintro w' ⟨s0_, s1_, s2_⟩
    first | (go_simp; done) | (go_simp; with_reducible rfl) | (go_simp; rfl)
   rotate_left
   ·simp only [Act.put, zzA, zzB, zzC, i64_w, i32_w]
    rfl
   refine pure_ (i := 8) (N := some 42) (v := ?_) (a' := ?_) #[T0, T0, T0, T0, T0, T0, T0, T0, T0, F0, F0] rfl rfl (by kernel_rfl) (fun _ _ _ h => h) (Or.inl ⟨by rfl, ?_⟩) ?_ ?_
   rotate_left
   ·intro w'
    go_simp
    with_reducible rfl
   rotate_left
   ·simp only [Act.put, zzA, zzB, zzC, i64_w, i32_w]
    rfl
   refine pure_ (i := 9) (N := some 43) (v := ?_) (a' := ?_) #[T0, T0, T0, T0, T0, T0, T0, T0, T0, T0, F0] rfl rfl (by kernel_rfl) (fun _ _ _ h => h) (Or.inl ⟨by rfl, ?_⟩) ?_ ?_
   rotate_left
   ·intro w'
    go_simp
    with_reducible rfl
   rotate_left
   ·simp only [Act.put, zzA, zzB, zzC, i64_w, i32_w]
    rfl
   refine pure_ (i := 10) (N := some 33) (v := ?_) (a' := ?_) #[T0, T0, T0, T0, T0, T0, T0, T0, T0, T0, T0] rfl rfl (by kernel_rfl) (fun _ _ _ h => h) (Or.inl ⟨by rfl, ?_⟩) ?_ ?_
   rotate_left
   ·intro w'
    go_simp
    with_reducible rfl
   rotate_left
   ·simp only [Act.put, zzA, zzB, zzC, i64_w, i32_w]
    rfl
   refine done_ (by kernel_rfl) ?_
   go_upto_if 33 with (fail)
   by_cases c62 : num > nx
   ·have d63 : decide (num > nx) = true := decide_eq_true c62
    (first | rw [d63] | (simp only [i64_w, i32_w]; rw [d63]) | skip)
    have K64 := Ak c62
    clear c62
    go_wp2_with (first | ((with_reducible refine gate_dst (N := 44) rfl ?_); refine ev_load rfl (N := 44) rfl rfl (g := g2) rfl (cs := #[.slice (some ⟨g9, 0, none⟩) s0.now.length c0, .slice A1 s0.sure.length c1, .slice (some ⟨g5, 0, none⟩) s0.last.length c2, .slice A3 s0.slast.length c3, .slice (some ⟨g1, 0, none⟩) s0.floors.length c4]) (Bk.below BK14.out (below_step (below_step (below_step (below_step (below_step HB19.out HB23.out) HB27.out) HB29.out) HB45.out) HB61.out)) hu26 rfl (by kernel_rfl) ?_) | ((with_reducible refine gate_store (t := 26) (p := 4) rfl ?_); refine ev_put (by rfl) rfl rfl (g := g4) rfl (cs := #[.slice (some ⟨g9, 0, none⟩) s0.now.length c0, .slice A1 s0.sure.length c1, .slice (some ⟨g5, 0, none⟩) s0.last.length c2, .slice A3 s0.slast.length c3, .slice (some ⟨g1, 0, none⟩) s0.floors.length c4]) rfl (Bk.below BK22.out (below_step (below_step (below_step HB27.out HB29.out) HB45.out) HB61.out)) (by kernel_rfl) rfl rfl ?_; intro W65 BK66 HB67 HK68; have z0_ := HLO.out; have z1_ := HHI.out; have z2_ := HB0.out.size; have z3_ := GT2.out; have z4_ := GL3.out; have z5_ := GH4.out; have z6_ := GT6.out; have z7_ := GL7.out; have z8_ := GH8.out; have z9_ := GT10.out; have z10_ := GL11.out; have z11_ := GH12.out; have z12_ := HB15.out.size; have z13_ := HG16.out; have z14_ := BK14.out.lt; have z15_ := HB19.out.size; have z16_ := HG20.out; have z17_ := BK18.out.lt; have z18_ := HB23.out.size; have z19_ := HG24.out; have z20_ := BK22.out.lt; have z21_ := HB27.out.size; have z22_ := HB29.out.size; have z23_ := HB45.out.size; have z24_ := HB61.out.size; have HB69 := Ak (below_at (below_step HB0.out (below_step (below_step (below_step (below_step (below_step (below_step HB15.out HB19.out) HB23.out) HB27.out) HB29.out) HB45.out) HB61.out)) HB67.out (by show w0.heap.size ≤ g4; omega)); have HK70 := Ak (HK68.out); have KP71 := Ak (kept_new (Kept.below KP0.out (below_step (below_step (below_step (below_step (below_step (below_step HB15.out HB19.out) HB23.out) HB27.out) HB29.out) HB45.out) HB61.out)) HK70.out (by show w.heap.size ≤ g4; omega)); have F72 := Ak (StR.kept (StR.below HV0.out (below_step (below_step (below_step (below_step (below_step (below_step HB15.out HB19.out) HB23.out) HB27.out) HB29.out) HB45.out) HB61.out)) HK70.out (fun k_ h_ => (by obtain ⟨h1_, h2_⟩ := h_; omega))); have F73 := Ak (Bk.kept (Bk.below BK14.out (below_step (below_step (below_step (below_step (below_step HB19.out HB23.out) HB27.out) HB29.out) HB45.out) HB61.out)) HK70.out (fun h_ => (by obtain ⟨h1_, h2_⟩ := h_; omega))); have F74 := Ak (Bk.kept (Bk.below BK18.out (below_step (below_step (below_step (below_step HB23.out HB27.out) HB29.out) HB45.out) HB61.out)) HK70.out (fun h_ => (by obtain ⟨h1_, h2_⟩ := h_; omega))); have F75 := Ak (BK66.out); clear z0_ z1_ z2_ z3_ z4_ z5_ z6_ z7_ z8_ z9_ z10_ z11_ z12_ z13_ z14_ z15_ z16_ z17_ z18_ z19_ z20_ z21_ z22_ z23_ z24_))
    obtain ⟨et_, ec_⟩ := doSt_w4 HT.out HQ.out (by have h_ := K32.out; omega) (by have h_ := K48.out; omega) HNX.out K64.out
    subst t
    subst c
    go_wp2_with (fail)
    try go_wp2
    refine bodyPost_ret (results_ct rfl _ _ g4 26 #[.slice (some ⟨g9, 0, none⟩) s0.now.length c0, .slice A1 s0.sure.length c1, .slice (some ⟨g5, 0, none⟩) s0.last.length c2, .slice A3 s0.slast.length c3, .slice (some ⟨g1, 0, none⟩) s0.floors.length c4] (0, 0) _ rfl F75.out hu26 rfl (by kernel_rfl)) rfl ?_
    exact ⟨rfl, F72.out, HB69.out, KP71.out⟩
   ·have d63 : decide (num > nx) = false := decide_eq_false c62
    (first | rw [d63] | (simp only [i64_w, i32_w]; rw [d63]) | skip)
    have K64 := Ak c62
    clear c62
    go_wp2_with (fail)
    refine start_ (n := 17) (S := fun w' => Bk w' g2 #[.slice (some ⟨g9, 0, none⟩) s0.now.length c0, .slice A1 s0.sure.length c1, .slice (some ⟨g5, 0, none⟩) s0.last.length c2, .slice A3 s0.slast.length c3, .slice (some ⟨g1, 0, none⟩) s0.floors.length c4] 26 ∧ Bk w' g3 #[.int .i64 who, .int .i64 ep, .int .i64 num, .int .i64 obj, .int .i64 at_, .string data] 52 ∧ w'.cell? ⟨g9, obj.toNat, none⟩ = some (.string (rdOf ByteArray.empty s0.now obj))) (ds := [16]) #[false, false, false, false, false, false, false, false, false, false, false, false, false, false, false, false, false] (by kernel_rfl) rfl rfl ⟨(show Bk W60 g2 #[.slice (some ⟨g9, 0, none⟩) s0.now.length c0, .slice A1 s0.sure.length c1, .slice (some ⟨g5, 0, none⟩) s0.last.length c2, .slice A3 s0.slast.length c3, .slice (some ⟨g1, 0, none⟩) s0.floors.length c4] 26 from (Bk.below BK14.out (below_step (below_step (below_step (below_step (below_step HB19.out HB23.out) HB27.out) HB29.out) HB45.out) HB61.out))), (show Bk W60 g3 #[.int .i64 who, .int .i64 ep, .int .i64 num, .int .i64 obj, .int .i64 at_, .string data] 52 from (Bk.below BK18.out (below_step (below_step (below_step (below_step HB23.out HB27.out) HB29.out) HB45.out) HB61.out))), (show W60.cell? ⟨g9, obj.toNat, none⟩ = some (.string (rdOf ByteArray.empty s0.now obj)) from (StR.now_cell (StR.below HV0.out (below_step (below_step (below_step (below_step (below_step (below_step HB15.out HB19.out) HB23.out) HB27.out) HB29.out) HB45.out) HB61.out)) HN3.out HN4.out).2.2.1)⟩ (fun hHeld => ?_)
    clear hHeld
    refine world_at (w := W60) (below_drew0 _) (fun W76 HB77 => ?_)
    refine pure_ (i := 0) (N := some 45) (v := ?_) (a' := ?_) #[T0, F0, F0, F0, F0, F0, F0, F0, F0, F0, F0, F0, F0, F0, F0, F0, F0] rfl rfl (by kernel_rfl) (fun _ _ _ h => h) (Or.inl ⟨by rfl, ?_⟩) ?_ ?_
    rotate_left
    ·intro w'
     go_simp
     with_reducible rfl
    rotate_left
    ·simp only [Act.put, zzA, zzB, zzC, i64_w, i32_w]
     rfl
    refine take_ (i := 1) (N := some 46) (v := .slice (some ⟨g9, 0, none⟩) s0.now.length c0) (a' := ?_) #[T0, T0, F0, F0, F0, F0, F0, F0, F0, F0, F0, F0, F0, F0, F0, F0, F0] rfl rfl (by kernel_rfl) (fun _ _ _ h => h) (Or.inl ⟨by rfl, ?_⟩) ⟨(Bk.below BK14.out (below_step (below_step (below_step (below_step (below_step (below_step HB19.out HB23.out) HB27.out) HB29.out) HB45.out) HB61.out) HB77.out)), (Bk.below BK18.out (below_step (below_step (below_step (below_step (below_step HB23.out HB27.out) HB29.out) HB45.out) HB61.out) HB77.out)), (show W76.cell? ⟨g9, obj.toNat, none⟩ = some (.string (rdOf ByteArray.empty s0.now obj)) from (StR.now_cell (StR.below HV0.out (below_step (below_step (below_step (below_step (below_step (below_step (below_step HB15.out HB19.out) HB23.out) HB27.out) HB29.out) HB45.out) HB61.out) HB77.out)) HN3.out HN4.out).2.2.1)⟩ ?_ ?_
    ·rintro w' ⟨s0_, s1_, s2_⟩
     have hc_ : w'.cell? ⟨g2, 0, none⟩ = some (.slice (some ⟨g9, 0, none⟩) s0.now.length c0) := (Bk.cell s0_ 0).trans rfl
     first | (go_simp; done) | (go_simp; with_reducible rfl) | (go_simp; rfl)
    rotate_left
    ·simp only [Act.put, zzA, zzB, zzC, i64_w, i32_w]
     rfl
    refine pure_ (i := 2) (N := some 47) (v := ?_) (a' := ?_) #[T0, T0, T0, F0, F0, F0, F0, F0, F0, F0, F0, F0, F0, F0, F0, F0, F0] rfl rfl (by kernel_rfl) (fun _ _ _ h => h) (Or.inl ⟨by rfl, ?_⟩) ?_ ?_
    rotate_left
    ·intro w'
     go_simp
     with_reducible rfl
    rotate_left
    ·simp only [Act.put, zzA, zzB, zzC, i64_w, i32_w]
     rfl
    refine take_ (i := 3) (N := some 48) (v := .int .i64 obj) (a' := ?_) #[T0, T0, T0, T0, F0, F0, F0, F0, F0, F0, F0, F0, F0, F0, F0, F0, F0] rfl rfl (by kernel_rfl) (fun _ _ _ h => h) (Or.inl ⟨by rfl, ?_⟩) ⟨(Bk.below BK14.out (below_step (below_step (below_step (below_step (below_step (below_step HB19.out HB23.out) HB27.out) HB29.out) HB45.out) HB61.out) HB77.out)), (Bk.below BK18.out (below_step (below_step (below_step (below_step (below_step HB23.out HB27.out) HB29.out) HB45.out) HB61.out) HB77.out)), (show W76.cell? ⟨g9, obj.toNat, none⟩ = some (.string (rdOf ByteArray.empty s0.now obj)) from (StR.now_cell (StR.below HV0.out (below_step (below_step (below_step (below_step (below_step (below_step (below_step HB15.out HB19.out) HB23.out) HB27.out) HB29.out) HB45.out) HB61.out) HB77.out)) HN3.out HN4.out).2.2.1)⟩ ?_ ?_
    ·rintro w' ⟨s0_, s1_, s2_⟩
     have hc_ : w'.cell? ⟨g3, 3, none⟩ = some (.int .i64 obj) := (Bk.cell s1_ 3).trans rfl
     first | (go_simp; done) | (go_simp; with_reducible rfl) | (go_simp; rfl)
    rotate_left
    ·simp only [Act.put, zzA, zzB, zzC, i64_w, i32_w]
     rfl
    refine pure_ (i := 4) (N := some 49) (v := ?_) (a' := ?_) #[T0, T0, T0, T0, T0, F0, F0, F0, F0, F0, F0, F0, F0, F0, F0, F0, F0] rfl rfl (by kernel_rfl) (fun _ _ _ h => h) (Or.inl ⟨by rfl, ?_⟩) ?_ ?_
    rotate_left
    ·intro w'
     go_simp
     with_reducible rfl
    rotate_left
    ·simp only [Act.put, zzA, zzB, zzC, i64_w, i32_w]
     rfl
    refine take_ (i := 5) (N := some 50) (v := .slice (some ⟨g9, 0, none⟩) s0.now.length c0) (a' := ?_) #[T0, T0, T0, T0, T0, T0, F0, F0, F0, F0, F0, F0, F0, F0, F0, F0, F0] rfl rfl (by kernel_rfl) (fun _ _ _ h => h) (Or.inl ⟨by rfl, ?_⟩) ⟨(Bk.below BK14.out (below_step (below_step (below_step (below_step (below_step (below_step HB19.out HB23.out) HB27.out) HB29.out) HB45.out) HB61.out) HB77.out)), (Bk.below BK18.out (below_step (below_step (below_step (below_step (below_step HB23.out HB27.out) HB29.out) HB45.out) HB61.out) HB77.out)), (show W76.cell? ⟨g9, obj.toNat, none⟩ = some (.string (rdOf ByteArray.empty s0.now obj)) from (StR.now_cell (StR.below HV0.out (below_step (below_step (below_step (below_step (below_step (below_step (below_step HB15.out HB19.out) HB23.out) HB27.out) HB29.out) HB45.out) HB61.out) HB77.out)) HN3.out HN4.out).2.2.1)⟩ ?_ ?_
    ·rintro w' ⟨s0_, s1_, s2_⟩
     have hc_ : w'.cell? ⟨g2, 0, none⟩ = some (.slice (some ⟨g9, 0, none⟩) s0.now.length c0) := (Bk.cell s0_ 0).trans rfl
     first | (go_simp; done) | (go_simp; with_reducible rfl) | (go_simp; rfl)
    rotate_left
    ·simp only [Act.put, zzA, zzB, zzC, i64_w, i32_w]
     rfl
    refine pure_ (i := 6) (N := some 51) (v := ?_) (a' := ?_) #[T0, T0, T0, T0, T0, T0, T0, F0, F0, F0, F0, F0, F0, F0, F0, F0, F0] rfl rfl (by kernel_rfl) (fun _ _ _ h => h) (Or.inl ⟨by rfl, ?_⟩) ?_ ?_
    rotate_left
    ·intro w'
     go_simp
     with_reducible rfl
    rotate_left
    ·simp only [Act.put, zzA, zzB, zzC, i64_w, i32_w]
     rfl
    refine take_ (i := 7) (N := some 52) (v := .int .i64 obj) (a' := ?_) #[T0, T0, T0, T0, T0, T0, T0, T0, F0, F0, F0, F0, F0, F0, F0, F0, F0] rfl rfl (by kernel_rfl) (fun _ _ _ h => h) (Or.inl ⟨by rfl, ?_⟩) ⟨(Bk.below BK14.out (below_step (below_step (below_step (below_step (below_step (below_step HB19.out HB23.out) HB27.out) HB29.out) HB45.out) HB61.out) HB77.out)), (Bk.below BK18.out (below_step (below_step (below_step (below_step (below_step HB23.out HB27.out) HB29.out) HB45.out) HB61.out) HB77.out)), (show W76.cell? ⟨g9, obj.toNat, none⟩ = some (.string (rdOf ByteArray.empty s0.now obj)) from (StR.now_cell (StR.below HV0.out (below_step (below_step (below_step (below_step (below_step (below_step (below_step HB15.out HB19.out) HB23.out) HB27.out) HB29.out) HB45.out) HB61.out) HB77.out)) HN3.out HN4.out).2.2.1)⟩ ?_ ?_
    ·rintro w' ⟨s0_, s1_, s2_⟩
     have hc_ : w'.cell? ⟨g3, 3, none⟩ = some (.int .i64 obj) := (Bk.cell s1_ 3).trans rfl
     first | (go_simp; done) | (go_simp; with_reducible rfl) | (go_simp; rfl)
    rotate_left
    ·simp only [Act.put, zzA, zzB, zzC, i64_w, i32_w]
     rfl
    refine pure_ (i := 8) (N := some 53) (v := ?_) (a' := ?_) #[T0, T0, T0, T0, T0, T0, T0, T0, T0, F0, F0, F0, F0, F0, F0, F0, F0] rfl rfl (by kernel_rfl) (fun _ _ _ h => h) (Or.inl ⟨by rfl, ?_⟩) ?_ ?_
    rotate_left
    ·intro w'
     go_simp
     with_reducible rfl
    rotate_left
    ·simp only [Act.put, zzA, zzB, zzC, i64_w, i32_w]
     rfl
    refine take_ (i := 9) (N := some 54) (v := .string (rdOf ByteArray.empty s0.now obj)) (a' := ?_) #[T0, T0, T0, T0, T0, T0, T0, T0, T0, T0, F0, F0, F0, F0, F0, F0, F0] rfl rfl (by kernel_rfl) (fun _ _ _ h => h) (Or.inl ⟨by rfl, ?_⟩) ⟨(Bk.below BK14.out (below_step (below_step (below_step (below_step (below_step (below_step HB19.out HB23.out) HB27.out) HB29.out) HB45.out) HB61.out) HB77.out)), (Bk.below BK18.out (below_step (below_step (below_step (below_step (below_step HB23.out HB27.out) HB29.out) HB45.out) HB61.out) HB77.out)), (show W76.cell? ⟨g9, obj.toNat, none⟩ = some (.string (rdOf ByteArray.empty s0.now obj)) from (StR.now_cell (StR.below HV0.out (below_step (below_step (below_step (below_step (below_step (below_step (below_step HB15.out HB19.out) HB23.out) HB27.out) HB29.out) HB45.out) HB61.out) HB77.out)) HN3.out HN4.out).2.2.1)⟩ ?_ ?_
    ·rintro w' ⟨s0_, s1_, s2_⟩
     first | (go_simp; done) | (go_simp; with_reducible rfl) | (go_simp; rfl)
    rotate_left
    ·simp only [Act.put, zzA, zzB, zzC, i64_w, i32_w]
     rfl
    refine pure_ (i := 10) (N := some 55) (v := ?_) (a' := ?_) #[T0, T0, T0, T0, T0, T0, T0, T0, T0, T0, T0, F0, F0, F0, F0, F0, F0] rfl rfl (by kernel_rfl) (fun _ _ _ h => h) (Or.inl ⟨by rfl, ?_⟩) ?_ ?_
    rotate_left
    ·intro w'
     go_simp
     with_reducible rfl
    rotate_left
    ·simp only [Act.put, zzA, zzB, zzC, i64_w, i32_w]
     rfl
    refine take_ (i := 11) (N := some 56) (v := .int .i64 at_) (a' := ?_) #[T0, T0, T0, T0, T0, T0, T0, T0, T0, T0, T0, T0, F0, F0, F0, F0, F0] rfl rfl (by kernel_rfl) (fun _ _ _ h => h) (Or.inl ⟨by rfl, ?_⟩) ⟨(Bk.below BK14.out (below_step (below_step (below_step (below_step (below_step (below_step HB19.out HB23.out) HB27.out) HB29.out) HB45.out) HB61.out) HB77.out)), (Bk.below BK18.out (below_step (below_step (below_step (below_step (below_step HB23.out HB27.out) HB29.out) HB45.out) HB61.out) HB77.out)), (show W76.cell? ⟨g9, obj.toNat, none⟩ = some (.string (rdOf ByteArray.empty s0.now obj)) from (StR.now_cell (StR.below HV0.out (below_step (below_step (below_step (below_step (below_step (below_step (below_step HB15.out HB19.out) HB23.out) HB27.out) HB29.out) HB45.out) HB61.out) HB77.out)) HN3.out HN4.out).2.2.1)⟩ ?_ ?_
    ·rintro w' ⟨s0_, s1_, s2_⟩
     have hc_ : w'.cell? ⟨g3, 4, none⟩ = some (.int .i64 at_) := (Bk.cell s1_ 4).trans rfl
     first | (go_simp; done) | (go_simp; with_reducible rfl) | (go_simp; rfl)
    rotate_left
    ·simp only [Act.put, zzA, zzB, zzC, i64_w, i32_w]
     rfl
    refine pure_ (i := 12) (N := some 57) (v := ?_) (a' := ?_) #[T0, T0, T0, T0, T0, T0, T0, T0, T0, T0, T0, T0, T0, F0, F0, F0, F0] rfl rfl (by kernel_rfl) (fun _ _ _ h => h) (Or.inl ⟨by rfl, ?_⟩) ?_ ?_
    rotate_left
    ·intro w'
     go_simp
     with_reducible rfl
    rotate_left
    ·simp only [Act.put, zzA, zzB, zzC, i64_w, i32_w]
     rfl
    refine take_ (i := 13) (N := some 58) (v := .string data) (a' := ?_) #[T0, T0, T0, T0, T0, T0, T0, T0, T0, T0, T0, T0, T0, T0, F0, F0, F0] rfl rfl (by kernel_rfl) (fun _ _ _ h => h) (Or.inl ⟨by rfl, ?_⟩) ⟨(Bk.below BK14.out (below_step (below_step (below_step (below_step (below_step (below_step HB19.out HB23.out) HB27.out) HB29.out) HB45.out) HB61.out) HB77.out)), (Bk.below BK18.out (below_step (below_step (below_step (below_step (below_step HB23.out HB27.out) HB29.out) HB45.out) HB61.out) HB77.out)), (show W76.cell? ⟨g9, obj.toNat, none⟩ = some (.string (rdOf ByteArray.empty s0.now obj)) from (StR.now_cell (StR.below HV0.out (below_step (below_step (below_step (below_step (below_step (below_step (below_step HB15.out HB19.out) HB23.out) HB27.out) HB29.out) HB45.out) HB61.out) HB77.out)) HN3.out HN4.out).2.2.1)⟩ ?_ ?_
    ·rintro w' ⟨s0_, s1_, s2_⟩
     have hc_ : w'.cell? ⟨g3, 5, none⟩ = some (.string data) := (Bk.cell s1_ 5).trans rfl
     first | (go_simp; done) | (go_simp; with_reducible rfl) | (go_simp; rfl)
    rotate_left
    ·simp only [Act.put, zzA, zzB, zzC, i64_w, i32_w]
     rfl
    refine one_ (i := 14) (N := some 59) #[T0, T0, T0, T0, T0, T0, T0, T0, T0, T0, T0, T0, T0, T0, T0, F0, F0] rfl rfl (by kernel_rfl) (by decide) (fun K hK => ?_)
    refine goes_ Try.func74 (by kernel_rfl) rfl #[.string (rdOf ByteArray.empty s0.now obj), .int .i64 at_, .string data] (by rfl) rfl rfl (by (try simp only [List.map_toArray, List.map_cons, List.map_nil]); first | done | rfl) ?_
    refine (spec_l2Write_c HQ.out HN5.out HWR.out).mono ?_
    rintro e W78 ⟨rfl, hb79⟩
    have HB80 := Ak hb79
    clear hb79
    refine ⟨_, rfl, ?_⟩
    refine hK.out _ _ ⟨(Bk.below BK14.out (below_step (below_step (below_step (below_step (below_step (below_step (below_step HB19.out HB23.out) HB27.out) HB29.out) HB45.out) HB61.out) HB77.out) HB80.out)), (Bk.below BK18.out (below_step (below_step (below_step (below_step (below_step (below_step HB23.out HB27.out) HB29.out) HB45.out) HB61.out) HB77.out) HB80.out)), (show W78.cell? ⟨g9, obj.toNat, none⟩ = some (.string (rdOf ByteArray.empty s0.now obj)) from (StR.now_cell (StR.below HV0.out (below_step (below_step (below_step (below_step (below_step (below_step (below_step (below_step HB15.out HB19.out) HB23.out) HB27.out) HB29.out) HB45.out) HB61.out) HB77.out) HB80.out)) HN3.out HN4.out).2.2.1)⟩ (fun hHeld => ?_)
    clear hHeld hK K
    refine norm_ (a' := ?_) ?_ ?_
    rotate_left
    ·show Act.put _ (some 59) _ = _
     simp only [Act.put, zzA, zzB, zzC, i64_w, i32_w]
     rfl
    refine pure_ (i := 15) (N := some 60) (v := ?_) (a' := ?_) #[T0, T0, T0, T0, T0, T0, T0, T0, T0, T0, T0, T0, T0, T0, T0, T0, F0] rfl rfl (by kernel_rfl) (fun _ _ _ h => h) (Or.inl ⟨by rfl, ?_⟩) ?_ ?_
    rotate_left
    ·intro w'
     go_simp
     with_reducible rfl
    rotate_left
    ·simp only [Act.put, zzA, zzB, zzC, i64_w, i32_w]
     rfl
    refine last_ (i := 16) (N := none) #[T0, T0, T0, T0, T0, T0, T0, T0, T0, T0, T0, T0, T0, T0, T0, T0, T0] rfl rfl (by kernel_rfl) (by decide) (fun K hK => ?_)
    refine skip_ (w1 := W78.setCell ⟨g9, obj.toNat, none⟩ (.string r)) (by rfl) rfl ?_ ?_
    ·have hc_ := (StR.now_cell (StR.below HV0.out (below_step (below_step (below_step (below_step (below_step (below_step (below_step (below_step HB15.out HB19.out) HB23.out) HB27.out) HB29.out) HB45.out) HB61.out) HB77.out) HB80.out)) HN3.out HN4.out).2.2.1
     have hf_ := (StR.now_cell (StR.below HV0.out (below_step (below_step (below_step (below_step (below_step (below_step (below_step (below_step HB15.out HB19.out) HB23.out) HB27.out) HB29.out) HB45.out) HB61.out) HB77.out) HB80.out)) HN3.out HN4.out).2.2.2.1
     first | (go_simp; done) | (go_simp; rfl)
    refine hK.out _ _ ?_
    clear hK K
    refine done_ (by kernel_rfl) ?_
    refine set_event (fun W81 e82 => ?_)
    have z0_ := HLO.out; have z1_ := HHI.out; have z2_ := HB0.out.size; have z3_ := GT2.out; have z4_ := GL3.out; have z5_ := GH4.out; have z6_ := GT6.out; have z7_ := GL7.out; have z8_ := GH8.out; have z9_ := GT10.out; have z10_ := GL11.out; have z11_ := GH12.out; have z12_ := HB15.out.size; have z13_ := HG16.out; have z14_ := BK14.out.lt; have z15_ := HB19.out.size; have z16_ := HG20.out; have z17_ := BK18.out.lt; have z18_ := HB23.out.size; have z19_ := HG24.out; have z20_ := BK22.out.lt; have z21_ := HB27.out.size; have z22_ := HB29.out.size; have z23_ := HB45.out.size; have z24_ := HB61.out.size; have z25_ := HB77.out.size; have z26_ := HB80.out.size; have HB83 := Ak (below_at (below_step HB0.out (below_step (below_step (below_step (below_step (below_step (below_step (below_step (below_step HB15.out HB19.out) HB23.out) HB27.out) HB29.out) HB45.out) HB61.out) HB77.out) HB80.out)) (below_setcell e82) (by show w0.heap.size ≤ g9; omega)); have HK84 := Ak (kept_set e82); have KP85 := Ak (Kept.then_ (Kept.below KP0.out (below_step (below_step (below_step (below_step (below_step (below_step (below_step (below_step HB15.out HB19.out) HB23.out) HB27.out) HB29.out) HB45.out) HB61.out) HB77.out) HB80.out)) HK84.out (fun k_ h_ => Or.inl (by obtain ⟨h1_, h2_⟩ := h_; exact ⟨by omega, by omega⟩))); have F86 := Ak ((StR.now_cell (StR.below HV0.out (below_step (below_step (below_step (below_step (below_step (below_step (below_step (below_step HB15.out HB19.out) HB23.out) HB27.out) HB29.out) HB45.out) HB61.out) HB77.out) HB80.out)) HN3.out HN4.out).2.2.2.2 (r) _ e82); have F87 := Ak (Bk.kept (Bk.below BK14.out (below_step (below_step (below_step (below_step (below_step (below_step (below_step HB19.out HB23.out) HB27.out) HB29.out) HB45.out) HB61.out) HB77.out) HB80.out)) HK84.out (fun h_ => (by obtain ⟨h1_, h2_⟩ := h_; omega))); have F88 := Ak (Bk.kept (Bk.below BK18.out (below_step (below_step (below_step (below_step (below_step (below_step HB23.out HB27.out) HB29.out) HB45.out) HB61.out) HB77.out) HB80.out)) HK84.out (fun h_ => (by obtain ⟨h1_, h2_⟩ := h_; omega))); have F89 := Ak (Bk.kept (Bk.below BK22.out (below_step (below_step (below_step (below_step (below_step HB27.out HB29.out) HB45.out) HB61.out) HB77.out) HB80.out)) HK84.out (fun h_ => (by obtain ⟨h1_, h2_⟩ := h_; omega))); clear z0_ z1_ z2_ z3_ z4_ z5_ z6_ z7_ z8_ z9_ z10_ z11_ z12_ z13_ z14_ z15_ z16_ z17_ z18_ z19_ z20_ z21_ z22_ z23_ z24_ z25_ z26_ e82
    go_wp2_with (first | ((with_reducible refine gate_dst (N := 62) rfl ?_); refine ev_val (by rfl) (v := .slice (some ⟨g5, 0, none⟩) s0.last.length c2) ?hr ?_; (case hr => have hc_ : W81.cell? ⟨g2, 2, none⟩ = some (.slice (some ⟨g5, 0, none⟩) s0.last.length c2) := (Bk.cell F87.out 2).trans rfl; first | (go_simp; done) | (go_simp; rfl))) | ((with_reducible refine gate_dst (N := 64) rfl ?_); refine ev_val (by rfl) (v := .int .i64 who) ?hr ?_; (case hr => have hc_ : W81.cell? ⟨g3, 0, none⟩ = some (.int .i64 who) := (Bk.cell F88.out 0).trans rfl; first | (go_simp; done) | (go_simp; rfl))) | ((with_reducible refine gate_dst (N := 66) rfl ?_); refine ev_val (by rfl) (v := .int .i64 num) ?hr ?_; (case hr => have hc_ : W81.cell? ⟨g3, 2, none⟩ = some (.int .i64 num) := (Bk.cell F88.out 2).trans rfl; first | (go_simp; done) | (go_simp; rfl))) | ((with_reducible refine gate_store (t := 3) (p := 67) rfl ?_); refine ev_setcell (by rfl) rfl (g := g5) (i := who.toNat) (v := .int .i64 num) ?hr ?_; (case hr => have hc_ := (StR.last_cell F86.out HN0.out HN2.out).2.2.1; have hf_ := (StR.last_cell F86.out HN0.out HN2.out).2.2.2.1; first | (go_simp; done) | (go_simp; rfl)); intro W90 e91; have z0_ := HLO.out; have z1_ := HHI.out; have z2_ := HB0.out.size; have z3_ := GT2.out; have z4_ := GL3.out; have z5_ := GH4.out; have z6_ := GT6.out; have z7_ := GL7.out; have z8_ := GH8.out; have z9_ := GT10.out; have z10_ := GL11.out; have z11_ := GH12.out; have z12_ := HB15.out.size; have z13_ := HG16.out; have z14_ := BK14.out.lt; have z15_ := HB19.out.size; have z16_ := HG20.out; have z17_ := BK18.out.lt; have z18_ := HB23.out.size; have z19_ := HG24.out; have z20_ := BK22.out.lt; have z21_ := HB27.out.size; have z22_ := HB29.out.size; have z23_ := HB45.out.size; have z24_ := HB61.out.size; have z25_ := HB77.out.size; have z26_ := HB80.out.size; have z27_ := HB83.out.size; have z28_ := HK84.out.1; have HB92 := Ak (below_at HB83.out (below_setcell e91) (by show w0.heap.size ≤ g5; omega)); have HK93 := Ak (kept_set e91); have KP94 := Ak (Kept.then_ KP85.out HK93.out (fun k_ h_ => Or.inl (by obtain ⟨h1_, h2_⟩ := h_; exact ⟨by omega, by omega⟩))); have F95 := Ak ((StR.last_cell F86.out HN0.out HN2.out).2.2.2.2 (num) _ e91); have F96 := Ak (Bk.kept F87.out HK93.out (fun h_ => (by obtain ⟨h1_, h2_⟩ := h_; omega))); have F97 := Ak (Bk.kept F88.out HK93.out (fun h_ => (by obtain ⟨h1_, h2_⟩ := h_; omega))); have F98 := Ak (Bk.kept F89.out HK93.out (fun h_ => (by obtain ⟨h1_, h2_⟩ := h_; omega))); clear z0_ z1_ z2_ z3_ z4_ z5_ z6_ z7_ z8_ z9_ z10_ z11_ z12_ z13_ z14_ z15_ z16_ z17_ z18_ z19_ z20_ z21_ z22_ z23_ z24_ z25_ z26_ z27_ z28_ e91) | ((with_reducible refine gate_dst (N := 68) rfl ?_); refine ev_load rfl (N := 68) rfl rfl (g := g2) rfl (cs := #[.slice (some ⟨g9, 0, none⟩) s0.now.length c0, .slice A1 s0.sure.length c1, .slice (some ⟨g5, 0, none⟩) s0.last.length c2, .slice A3 s0.slast.length c3, .slice (some ⟨g1, 0, none⟩) s0.floors.length c4]) F96.out hu26 rfl (by kernel_rfl) ?_) | ((with_reducible refine gate_store (t := 26) (p := 4) rfl ?_); refine ev_put (by rfl) rfl rfl (g := g4) rfl (cs := #[.slice (some ⟨g9, 0, none⟩) s0.now.length c0, .slice A1 s0.sure.length c1, .slice (some ⟨g5, 0, none⟩) s0.last.length c2, .slice A3 s0.slast.length c3, .slice (some ⟨g1, 0, none⟩) s0.floors.length c4]) rfl F98.out (by kernel_rfl) rfl rfl ?_; intro W99 BK100 HB101 HK102; have z0_ := HLO.out; have z1_ := HHI.out; have z2_ := HB0.out.size; have z3_ := GT2.out; have z4_ := GL3.out; have z5_ := GH4.out; have z6_ := GT6.out; have z7_ := GL7.out; have z8_ := GH8.out; have z9_ := GT10.out; have z10_ := GL11.out; have z11_ := GH12.out; have z12_ := HB15.out.size; have z13_ := HG16.out; have z14_ := BK14.out.lt; have z15_ := HB19.out.size; have z16_ := HG20.out; have z17_ := BK18.out.lt; have z18_ := HB23.out.size; have z19_ := HG24.out; have z20_ := BK22.out.lt; have z21_ := HB27.out.size; have z22_ := HB29.out.size; have z23_ := HB45.out.size; have z24_ := HB61.out.size; have z25_ := HB77.out.size; have z26_ := HB80.out.size; have z27_ := HB83.out.size; have z28_ := HK84.out.1; have z29_ := HB92.out.size; have z30_ := HK93.out.1; have HB103 := Ak (below_at HB92.out HB101.out (by show w0.heap.size ≤ g4; omega)); have HK104 := Ak (HK102.out); have KP105 := Ak (kept_new KP94.out HK104.out (by show w.heap.size ≤ g4; omega)); have F106 := Ak (StR.kept F95.out HK104.out (fun k_ h_ => (by obtain ⟨h1_, h2_⟩ := h_; omega))); have F107 := Ak (Bk.kept F96.out HK104.out (fun h_ => (by obtain ⟨h1_, h2_⟩ := h_; omega))); have F108 := Ak (Bk.kept F97.out HK104.out (fun h_ => (by obtain ⟨h1_, h2_⟩ := h_; omega))); have F109 := Ak (BK100.out); clear z0_ z1_ z2_ z3_ z4_ z5_ z6_ z7_ z8_ z9_ z10_ z11_ z12_ z13_ z14_ z15_ z16_ z17_ z18_ z19_ z20_ z21_ z22_ z23_ z24_ z25_ z26_ z27_ z28_ z29_ z30_))
    obtain ⟨et_, ec_⟩ := doSt_w5 HT.out HQ.out (by have h_ := K32.out; omega) (by have h_ := K48.out; omega) HNX.out (by have h_ := K64.out; omega) HWR.out
    subst t
    subst c
    go_wp2_with (fail)
    try go_wp2
    refine bodyPost_ret (results_ct rfl _ _ g4 26 #[.slice (some ⟨g9, 0, none⟩) s0.now.length c0, .slice A1 s0.sure.length c1, .slice (some ⟨g5, 0, none⟩) s0.last.length c2, .slice A3 s0.slast.length c3, .slice (some ⟨g1, 0, none⟩) s0.floors.length c4] (0, 0) _ rfl F109.out hu26 rfl (by kernel_rfl)) rfl ?_
    exact ⟨rfl, F106.out, HB103.out, KP105.out⟩
end Go.Proofs.Ytmekkapacbdbeaa.P

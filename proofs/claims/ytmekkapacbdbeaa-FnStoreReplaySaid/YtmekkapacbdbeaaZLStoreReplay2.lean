/- Part 2 of the proof of FnStoreReplay: words, contracts of callees, plain lemmas. -/
import Derived.Test.YtmekkapacbdbeaaZLStoreReplay1
set_option maxHeartbeats 8000000
set_option maxRecDepth 100000
set_option linter.unusedVariables false
set_option linter.unusedSimpArgs false
namespace Go.Proofs.Ytmekkapacbdbeaa.P
open Go.RowKit Go.Proofs.YtmekkapacbdbeaaW.PrintWords Go.Proofs.YtmekkapacbdbeaaW.PrintLast Go.Proofs.YtmekkapacbdbeaaW.PrintMore
theorem l5Ask_c {w0 w:World} {g m:Nat} (hB:Below w0.heap.size w0 w) (hR:Rd w0 w g (m + 20)) {v:Value} {s:St} {lo hi:Nat} (hv:StI w lo hi v s) (hf:g<lo∨hi≤g) (hhi:hi≤w.heap.size) :
  Calls Try.prog 61 #[.pointer (some ⟨g,0,none⟩),v] w fun e w'=>∃ (who ep num obj at_:Int) (data:ByteArray),e = .returned (.agg #[.int .i64 who,.int .i64 ep,.int .i64 num,.int .i64 obj,.int .i64 at_,.string data])∧data.size≤9223372036854775807∧Rd w0 w' g m∧Below w0.heap.size w0 w'∧Kept w w' (fun k=>g≤k∧k<g + 1):=by
 have HB0:=Ak hB
 have HG:=Ak hR.lt
 have HG0:=Ak hR.ge
 have HRD:=Ak hR
 have KP0:=Ak (Kept.refl w (fun k=>g≤k∧k<g + 1))
 have HT0:=Ak (Nat.le_refl w.heap.size)
 clear hB hR
 have HV0:=Ak hv
 have HF:=Ak hf
 have HHI:=Ak hhi
 obtain ⟨A0_0,c0_0,A0_1,c0_1,A0_2,c0_2,A0_3,c0_3,A0_4,c0_4,rfl,_⟩:=hv.toC
 clear hv hf hhi
 have hu52:=Try.underlying52
 go_enter Try.func61,Try.ntmps61
 have Z1:=Ak (And.intro HB0.out.size (And.intro HG.out HG0.out))
 have Z2:=Ak (And.intro Z1.out (And.intro HF.out HHI.out))
 go_wp2_with (first|((with_reducible refine gate_dst (N:=3) rfl ?_);refine ev_box ?hg (N:=3) ?hd (cs:=#[.slice A0_0 s.now.length c0_0,.slice A0_1 s.sure.length c0_1,.slice A0_2 s.last.length c0_2,.slice A0_3 s.slast.length c0_3,.slice A0_4 s.floors.length c0_4]) (t:=26) ?hr ?_;(case hd=>rfl);(case hg=>rfl);(case hr=>first|(go_simp;done)|(go_simp;rfl));intro g3 W3 HG6 BK4 HB5)|((with_reducible refine gate_dst (N:=4) rfl ?_);refine ev_box ?hg (N:=4) ?hd (cs:=#[.int .i64 0,.int .i64 0,.int .i64 0,.int .i64 0,.int .i64 0,.string ⟨#[]⟩]) (t:=52) ?hr ?_;(case hd=>rfl);(case hg=>rfl);(case hr=>first|(go_simp;done)|(go_simp;rfl));intro g4 W7 HG10 BK8 HB9))
 refine (pick_c (m:=m + 19) (Rd.below HRD.out (below_step HB5.out HB9.out)) (below_step HB0.out (below_step HB5.out HB9.out)) (by omega)).mono ?_
 rintro e W17 ⟨r11,rfl,h12,h13,hR14,hb18,hk15⟩
 have z0_:=Z2.out
 have z1_:=HT0.out
 have z2_:=HB5.out.size
 have z3_:=HG6.out
 have z4_:=BK4.out.lt
 have z5_:=HB9.out.size
 have z6_:=HG10.out
 have z7_:=BK8.out.lt
 have C20:=Ak (show w.heap.size≤g3∧g3≤g3 + 1 from (by omega))
 have C21:=Ak (show g3 + 1≤g4∧g4≤g4 + 1 from (by omega))
 have T22:=Ak (show g4 + 1≤W7.heap.size from (by omega))
 have N23:=Ak (show ∀ k_,(g≤k_∧k_<g + 1)→k_<lo∨hi≤k_ from (by intro k_ h_;omega))
 have N24:=Ak (show ¬ (g≤g3∧g3<g + 1) from (by omega))
 have N25:=Ak (show ¬ (g≤g4∧g4<g + 1) from (by omega))
 have HB26:=Ak (hb18)
 have HK27:=Ak (hk15)
 have KP29:=Ak (Kept.then_ (Kept.below KP0.out (below_step HB5.out HB9.out)) HK27.out (fun _ h_=>Or.inl h_))
 have T28:=Ak (Nat.le_trans T22.out HK27.out.1)
 have F30:=Ak (StI.kept (StI.below HV0.out (below_step HB5.out HB9.out)) HK27.out N23.out)
 have F31:=Ak (Bk.kept (Bk.below BK4.out HB9.out) HK27.out N24.out)
 have F32:=Ak (Bk.kept BK8.out HK27.out N25.out)
 have F33:=Ak (hR14)
 clear z0_ z1_ z2_ z3_ z4_ z5_ z6_ z7_ hb18 hk15 hR14
 have Z34:=Ak (And.intro Z2.out (And.intro C20.out C21.out))
 have HP16:=Ak (And.intro h12 h13)
 clear h12 h13
 go_wp2_with (fail)
 refine (pick_c (m:=m + 18) F33.out HB26.out (by omega)).mono ?_
 rintro e W41 ⟨r35,rfl,h36,h37,hR38,hb42,hk39⟩
 have HB44:=Ak (hb42)
 have HK45:=Ak (hk39)
 have KP47:=Ak (Kept.then_ KP29.out HK45.out (fun _ h_=>Or.inl h_))
 have T46:=Ak (Nat.le_trans T28.out HK45.out.1)
 have F48:=Ak (StI.kept F30.out HK45.out N23.out)
 have F49:=Ak (Bk.kept F31.out HK45.out N24.out)
 have F50:=Ak (Bk.kept F32.out HK45.out N25.out)
 have F51:=Ak (hR38)
 clear hb42 hk39 hR38
 have HP40:=Ak (And.intro h36 h37)
 clear h36 h37
 go_wp2_with (fail)
 refine (pick_c (m:=m + 17) F51.out HB44.out (by omega)).mono ?_
 rintro e W58 ⟨r52,rfl,h53,h54,hR55,hb59,hk56⟩
 have HB61:=Ak (hb59)
 have HK62:=Ak (hk56)
 have KP64:=Ak (Kept.then_ KP47.out HK62.out (fun _ h_=>Or.inl h_))
 have T63:=Ak (Nat.le_trans T46.out HK62.out.1)
 have F65:=Ak (StI.kept F48.out HK62.out N23.out)
 have F66:=Ak (Bk.kept F49.out HK62.out N24.out)
 have F67:=Ak (Bk.kept F50.out HK62.out N25.out)
 have F68:=Ak (hR55)
 clear hb59 hk56 hR55
 have HP57:=Ak (And.intro h53 h54)
 clear h53 h54
 go_wp2_with (fail)
 refine (pick_c (m:=m + 16) F68.out HB61.out (by omega)).mono ?_
 rintro e W75 ⟨r69,rfl,h70,h71,hR72,hb76,hk73⟩
 have HB78:=Ak (hb76)
 have HK79:=Ak (hk73)
 have KP81:=Ak (Kept.then_ KP64.out HK79.out (fun _ h_=>Or.inl h_))
 have T80:=Ak (Nat.le_trans T63.out HK79.out.1)
 have F82:=Ak (StI.kept F65.out HK79.out N23.out)
 have F83:=Ak (Bk.kept F66.out HK79.out N24.out)
 have F84:=Ak (Bk.kept F67.out HK79.out N25.out)
 have F85:=Ak (hR72)
 clear hb76 hk73 hR72
 have HP74:=Ak (And.intro h70 h71)
 clear h70 h71
 go_wp2_with (first|((with_reducible refine gate_dst (N:=17) rfl ?_);refine ev_lit Kd.string 9 ?hg (N:=17) ?hd (xs:=([(⟨#[120]⟩:ByteArray),(⟨#[97,98]⟩:ByteArray),(⟨#[113,55,46]⟩:ByteArray),(⟨#[109,110,111,112]⟩:ByteArray)]:List ByteArray)) (inner:=[.string ⟨#[120]⟩,.string ⟨#[97,98]⟩,.string ⟨#[113,55,46]⟩,.string ⟨#[109,110,111,112]⟩]) ?hr (reps_str ([(⟨#[120]⟩:ByteArray),(⟨#[97,98]⟩:ByteArray),(⟨#[113,55,46]⟩:ByteArray),(⟨#[109,110,111,112]⟩:ByteArray)]:List ByteArray)) (by simp) ?_;(case hd=>rfl);(case hg=>rfl);(case hr=>first|(go_simp;done)|(go_simp;rfl));intro A86 c87 W89 HL88 HB90))
 refine (of_c (m:=m + 15) (Rd.below F85.out HB90.out) (below_step HB78.out HB90.out) HL88.out.1 HL88.out.2.1 (fun ad_ e_ h_=>(by have q_:=HL88.out.2.2 ad_ e_ h_;show ad_.block ≠ g;have z0_:=Z34.out;have z1_:=T80.out;have z2_:=HB90.out.size;omega)) (by decide)).mono ?_
 rintro e W96 ⟨r91,rfl,hm92,hR93,hb97,hk94⟩
 have z0_:=Z34.out
 have z1_:=T80.out
 have z2_:=HB90.out.size
 have T99:=Ak (show g4 + 1≤W89.heap.size from (by omega))
 have HB100:=Ak (hb97)
 have HK101:=Ak (hk94)
 have KP103:=Ak (Kept.then_ (Kept.below KP81.out HB90.out) HK101.out (fun _ h_=>Or.inl h_))
 have T102:=Ak (Nat.le_trans T99.out HK101.out.1)
 have F104:=Ak (StI.kept (StI.below F82.out HB90.out) HK101.out N23.out)
 have F105:=Ak (Bk.kept (Bk.below F83.out HB90.out) HK101.out N24.out)
 have F106:=Ak (Bk.kept (Bk.below F84.out HB90.out) HK101.out N25.out)
 have F107:=Ak (hR93)
 clear z0_ z1_ z2_ hb97 hk94 hR93
 have HM95:=Ak hm92
 clear hm92
 go_upto_if 23 with (first|((with_reducible refine gate_dst (N:=6) rfl ?_);refine ev_box ?hg (N:=6) ?hd (cs:=#[.int .i64 0,.int .i64 0,.int .i64 0,.int .i64 0,.int .i64 0,.string ⟨#[]⟩]) (t:=52) ?hr ?_;(case hd=>rfl);(case hg=>rfl);(case hr=>first|(go_simp;done)|(go_simp;rfl));intro g6 W108 HG111 BK109 HB110)|((with_reducible refine gate_store (t:=52) (p:=6) rfl ?_);refine ev_put (by rfl) rfl rfl (g:=g6) rfl (cs:=#[.int .i64 r11,.int .i64 r35,.int .i64 1,.int .i64 r52,.int .i64 r69,.string r91]) rfl BK109.out (by kernel_rfl) rfl rfl ?_;intro W112 BK113 HB114 HK115;have z0_:=Z34.out;have z1_:=T102.out;have z2_:=HB110.out.size;have z3_:=HG111.out;have z4_:=BK109.out.lt;have C116:=Ak (show g4 + 1≤g6∧g6≤g6 + 1 from (by omega));have T117:=Ak (show g6 + 1≤W108.heap.size from (by omega));have HB118:=Ak (below_at (below_step HB100.out HB110.out) HB114.out (by show w0.heap.size≤g6;omega));have HK119:=Ak (HK115.out);have KP121:=Ak (kept_new (Kept.below KP103.out HB110.out) HK119.out (by show w.heap.size≤g6;omega));have T120:=Ak (Nat.le_trans T117.out HK119.out.1);have F122:=Ak (StI.kept (StI.below F104.out HB110.out) HK119.out (fun k_ h_=>(by obtain ⟨h1_,h2_⟩:=h_;omega)));have F123:=Ak (Bk.kept (Bk.below F105.out HB110.out) HK119.out (fun h_=>(by obtain ⟨h1_,h2_⟩:=h_;omega)));have F124:=Ak (Bk.kept (Bk.below F106.out HB110.out) HK119.out (fun h_=>(by obtain ⟨h1_,h2_⟩:=h_;omega)));have F125:=Ak (BK113.out);have F126:=Ak (Rd.kept (Rd.below F107.out HB110.out) HK119.out (fun h_=>(by obtain ⟨h1_,h2_⟩:=h_;omega)));clear z0_ z1_ z2_ z3_ z4_;have Z127:=Ak (And.intro Z34.out C116.out))|((with_reducible refine gate_dst (N:=21) rfl ?_);refine ev_val (by rfl) (v:=.slice A0_2 s.last.length c0_2) ?hr ?_;(case hr=>have hc_:W112.cell? ⟨g3,2,none⟩=some (.slice A0_2 s.last.length c0_2):=(Bk.cell F123.out 2).trans rfl;first|(go_simp;done)|(go_simp;rfl))))
 go_cut [] (fun W128=>∃ (n2_:Int),Aside0 (Bk W128 g3 #[.slice A0_0 s.now.length c0_0,.slice A0_1 s.sure.length c0_1,.slice A0_2 s.last.length c0_2,.slice A0_3 s.slast.length c0_3,.slice A0_4 s.floors.length c0_4] 26)∧Aside0 (Bk W128 g4 #[.int .i64 0,.int .i64 0,.int .i64 0,.int .i64 0,.int .i64 0,.string ⟨#[]⟩] 52)∧Aside0 (Bk W128 g6 #[.int .i64 r11,.int .i64 r35,.int .i64 n2_,.int .i64 r52,.int .i64 r69,.string r91] 52)∧Aside0 (StI W128 lo hi (.agg #[.slice A0_0 s.now.length c0_0,.slice A0_1 s.sure.length c0_1,.slice A0_2 s.last.length c0_2,.slice A0_3 s.slast.length c0_3,.slice A0_4 s.floors.length c0_4]) (s))∧Aside0 (Rd w0 W128 g (m + 14))∧Aside0 (Below w0.heap.size w0 W128)∧Aside0 (Kept w W128 (fun k=>g≤k∧k<g + 1))∧Aside0 (g6 + 1≤W128.heap.size))
 case first =>
  by_cases c129:(s.last.length:Int)=3
  ·have d130:((s.last.length:Int) == 3)=true:=beq_iff_eq.mpr c129
   (first|rw [d130]|(simp only [i64_w,i32_w];rw [d130])|skip)
   have K131:=Ak c129
   clear c129
   go_upto_region 4 with (fail)
   have HI132:=Ak (show 0≤(r11:Int)∧(r11:Int)<((s.last).length:Int) from (by have i0_:=HP16.out;have i1_:=HP40.out;have i2_:=HP57.out;have i3_:=HP74.out;have i4_:=K131.out;exact ⟨by omega,by omega⟩))
   obtain ⟨ad133,rfl⟩:=StC.last_form (StI.toC F122.out) HI132.out.1 HI132.out.2
   have pHI132:=eq_true HI132.out.1
   have qHI132:=eq_true HI132.out.2
   go_wp2_with (fail)
   refine start_ (n:=11) (S:=fun w'=>Bk w' g3 #[.slice A0_0 s.now.length c0_0,.slice A0_1 s.sure.length c0_1,.slice (some ad133) s.last.length c0_2,.slice A0_3 s.slast.length c0_3,.slice A0_4 s.floors.length c0_4] 26∧w'.cell? (ad133.add (r11).toNat)=some (.int .i64 (rd s.last r11))) (ds:=[10]) #[false,false,false,false,false,false,false,false,false,false,false] (by kernel_rfl) rfl rfl ⟨(show Bk W112 g3 #[.slice A0_0 s.now.length c0_0,.slice A0_1 s.sure.length c0_1,.slice (some ad133) s.last.length c0_2,.slice A0_3 s.slast.length c0_3,.slice A0_4 s.floors.length c0_4] 26 from F123.out),(show W112.cell? (ad133.add (r11).toNat)=some (.int .i64 (rd s.last r11)) from (StC.last_read (StI.toC F122.out) HI132.out.1 HI132.out.2))⟩ (fun hHeld=>?_)
   clear hHeld
   refine world_at (w:=W112) (below_drew0 _) (fun W134 HB135=>?_)
   refine pure_ (i:=0) (N:=some 24) (v:=?_) (a':=?_) #[T0,F0,F0,F0,F0,F0,F0,F0,F0,F0,F0] rfl rfl (by kernel_rfl) (fun _ _ _ h=>h) (Or.inl ⟨by rfl,?_⟩) ?_ ?_
   rotate_left
   ·intro w'
    go_simp
    with_reducible rfl
   rotate_left
   ·simp only [Act.put,zzA,zzB,zzC,i64_w,i32_w]
    rfl
   refine take_ (i:=1) (N:=some 25) (v:=.slice (some ad133) s.last.length c0_2) (a':=?_) #[T0,T0,F0,F0,F0,F0,F0,F0,F0,F0,F0] rfl rfl (by kernel_rfl) (fun _ _ _ h=>h) (Or.inl ⟨by rfl,?_⟩) ⟨(Bk.below F123.out HB135.out),(show W134.cell? (ad133.add (r11).toNat)=some (.int .i64 (rd s.last r11)) from (StC.last_read (StI.toC (StI.below F122.out HB135.out)) HI132.out.1 HI132.out.2))⟩ ?_ ?_
   ·rintro w' ⟨s0_,s1_⟩
    have hc_:w'.cell? ⟨g3,2,none⟩=some (.slice (some ad133) s.last.length c0_2):=(Bk.cell s0_ 2).trans rfl
    first|(go_simp;done)|(go_simp;with_reducible rfl)|(go_simp;rfl)
   rotate_left
   ·simp only [Act.put,zzA,zzB,zzC,i64_w,i32_w]
    rfl
   refine pure_ (i:=2) (N:=some 26) (v:=?_) (a':=?_) #[T0,T0,T0,F0,F0,F0,F0,F0,F0,F0,F0] rfl rfl (by kernel_rfl) (fun _ _ _ h=>h) (Or.inl ⟨by rfl,?_⟩) ?_ ?_
   rotate_left
   ·intro w'
    go_simp
    with_reducible rfl
   rotate_left
   ·simp only [Act.put,zzA,zzB,zzC,i64_w,i32_w]
    rfl
   refine pure_ (i:=3) (N:=some 27) (v:=?_) (a':=?_) #[T0,T0,T0,T0,F0,F0,F0,F0,F0,F0,F0] rfl rfl (by kernel_rfl) (fun _ _ _ h=>h) (Or.inl ⟨by rfl,?_⟩) ?_ ?_
   rotate_left
   ·intro w'
    go_simp
    with_reducible rfl
   rotate_left
   ·simp only [Act.put,zzA,zzB,zzC,i64_w,i32_w]
    rfl
   refine take_ (i:=4) (N:=some 28) (v:=.int .i64 (rd s.last r11)) (a':=?_) #[T0,T0,T0,T0,T0,F0,F0,F0,F0,F0,F0] rfl rfl (by kernel_rfl) (fun _ _ _ h=>h) (Or.inl ⟨by rfl,?_⟩) ⟨(Bk.below F123.out HB135.out),(show W134.cell? (ad133.add (r11).toNat)=some (.int .i64 (rd s.last r11)) from (StC.last_read (StI.toC (StI.below F122.out HB135.out)) HI132.out.1 HI132.out.2))⟩ ?_ ?_
   ·rintro w' ⟨s0_,s1_⟩
    first|(go_simp;done)|(go_simp;with_reducible rfl)|(go_simp;rfl)
   rotate_left
   ·simp only [Act.put,zzA,zzB,zzC,i64_w,i32_w]
    rfl
   refine pure_ (i:=5) (N:=some 29) (v:=?_) (a':=?_) #[T0,T0,T0,T0,T0,T0,F0,F0,F0,F0,F0] rfl rfl (by kernel_rfl) (fun _ _ _ h=>h) (Or.inl ⟨by rfl,?_⟩) ?_ ?_
   rotate_left
   ·intro w'
    go_simp
    with_reducible rfl
   rotate_left
   ·simp only [Act.put,zzA,zzB,zzC,i64_w,i32_w]
    rfl
   refine one_ (i:=6) (N:=some 30) #[T0,T0,T0,T0,T0,T0,T0,F0,F0,F0,F0] rfl rfl (by kernel_rfl) (by decide) (fun K hK=>?_)
   refine lit_step (Kd.int .i64) 3 (by rfl) (N:=30) rfl (xs:=([1,1,1,1,1,0,2,(-1)]:List Int)) (inner:=[.int .i64 1,.int .i64 1,.int .i64 1,.int .i64 1,.int .i64 1,.int .i64 0,.int .i64 2,.int .i64 (-1)]) (by first|(go_simp;done)|(go_simp;rfl)) (reps_int ([1,1,1,1,1,0,2,(-1)]:List Int)) (by simp) ?_
   intro A136 c137 W139 HL138 HB140
   refine hK.out _ _ ⟨(Bk.below F123.out (below_step HB135.out HB140.out)),(show W139.cell? (ad133.add (r11).toNat)=some (.int .i64 (rd s.last r11)) from (StC.last_read (StI.toC (StI.below F122.out (below_step HB135.out HB140.out))) HI132.out.1 HI132.out.2))⟩ (fun hHeld=>?_)
   clear hHeld hK K
   refine norm_ (a':=?_) ?_ ?_
   rotate_left
   ·show Act.put _ (some 30) _=_
    simp only [Act.put,zzA,zzB,zzC,i64_w,i32_w]
    rfl
   refine one_ (i:=7) (N:=some 31) #[T0,T0,T0,T0,T0,T0,T0,T0,F0,F0,F0] rfl rfl (by kernel_rfl) (by decide) (fun K hK=>?_)
   refine goes_ Try.func64 (by kernel_rfl) rfl #[.pointer (some ⟨g,0,none⟩),.slice A136 ([1,1,1,1,1,0,2,(-1)]:List Int).length c137] (by rfl) rfl rfl (by (try simp only [List.map_toArray,List.map_cons,List.map_nil]);first|done|rfl) ?_
   refine (num_c (m:=m + 14) (Rd.below F126.out (below_step HB135.out HB140.out)) (below_step HB118.out (below_step HB135.out HB140.out)) HL138.out.1 HL138.out.2.1 (fun ad_ e_ h_=>(by have q_:=HL138.out.2.2 ad_ e_ h_;show ad_.block ≠ g;have z0_:=Z127.out;have z1_:=T120.out;have z2_:=HB135.out.size;have z3_:=HB140.out.size;omega)) (by decide)).mono ?_
   rintro e W146 ⟨r141,rfl,hm142,hR143,hb147,hk144⟩
   have z0_:=Z127.out
   have z1_:=T120.out
   have z2_:=HB135.out.size
   have z3_:=HB140.out.size
   have T149:=Ak (show g6 + 1≤W139.heap.size from (by omega))
   have N150:=Ak (show ¬ (g≤g6∧g6<g + 1) from (by omega))
   have HB151:=Ak (hb147)
   have HK152:=Ak (hk144)
   have KP154:=Ak (Kept.then_ (Kept.below KP121.out (below_step HB135.out HB140.out)) HK152.out (fun _ h_=>Or.inl h_))
   have T153:=Ak (Nat.le_trans T149.out HK152.out.1)
   have F155:=Ak (StI.kept (StI.below F122.out (below_step HB135.out HB140.out)) HK152.out N23.out)
   have F156:=Ak (Bk.kept (Bk.below F123.out (below_step HB135.out HB140.out)) HK152.out N24.out)
   have F157:=Ak (Bk.kept (Bk.below F124.out (below_step HB135.out HB140.out)) HK152.out N25.out)
   have F158:=Ak (Bk.kept (Bk.below F125.out (below_step HB135.out HB140.out)) HK152.out N150.out)
   have F159:=Ak (hR143)
   clear z0_ z1_ z2_ z3_ hb147 hk144 hR143
   have HM145:=Ak hm142
   clear hm142
   refine ⟨_,rfl,?_⟩
   refine hK.out _ _ ⟨F156.out,(show W146.cell? (ad133.add (r11).toNat)=some (.int .i64 (rd s.last r11)) from (StC.last_read (StI.toC F155.out) HI132.out.1 HI132.out.2))⟩ (fun hHeld=>?_)
   clear hHeld hK K
   refine norm_ (a':=?_) ?_ ?_
   rotate_left
   ·show Act.put _ (some 31) _=_
    simp only [Act.put,zzA,zzB,zzC,i64_w,i32_w]
    rfl
   refine pure_ (i:=8) (N:=some 32) (v:=?_) (a':=?_) #[T0,T0,T0,T0,T0,T0,T0,T0,T0,F0,F0] rfl rfl (by kernel_rfl) (fun _ _ _ h=>h) (Or.inl ⟨by rfl,?_⟩) ?_ ?_
   rotate_left
   ·intro w'
    go_simp
    with_reducible rfl
   rotate_left
   ·simp only [Act.put,zzA,zzB,zzC,i64_w,i32_w]
    rfl
   refine pure_ (i:=9) (N:=some 33) (v:=?_) (a':=?_) #[T0,T0,T0,T0,T0,T0,T0,T0,T0,T0,F0] rfl rfl (by kernel_rfl) (fun _ _ _ h=>h) (Or.inl ⟨by rfl,?_⟩) ?_ ?_
   rotate_left
   ·intro w'
    go_simp
    with_reducible rfl
   rotate_left
   ·simp only [Act.put,zzA,zzB,zzC,i64_w,i32_w]
    rfl
   refine last_ (i:=10) (N:=none) #[T0,T0,T0,T0,T0,T0,T0,T0,T0,T0,T0] rfl rfl (by kernel_rfl) (by decide) (fun K hK=>?_)
   refine skip_ (w1:=W146.setCell ⟨g6,2,none⟩ (.int .i64 (wrap64 ((rd s.last r11) + r141)))) (by rfl) rfl ?_ ?_
   ·have hc_:W146.cell? ⟨g6,2,none⟩=some (.int .i64 1):=(Bk.cell F158.out 2).trans rfl
    have hf_:=Bk.hot F158.out 2
    first|(go_simp;done)|(go_simp;rfl)
   refine hK.out _ _ ?_
   clear hK K
   refine done_ (by kernel_rfl) ?_
   refine set_event (fun W160 e161=>?_)
   have z0_:=Z127.out
   have z1_:=T153.out
   have T162:=Ak (show g6 + 1≤W146.heap.size from (by omega))
   have HB163:=Ak (below_at HB151.out (below_setcell e161) (by show w0.heap.size≤g6;omega))
   have HK164:=Ak (kept_set e161)
   have KP166:=Ak (kept_new KP154.out HK164.out (by show w.heap.size≤g6;omega))
   have T165:=Ak (Nat.le_trans T162.out HK164.out.1)
   have F167:=Ak (StI.kept F155.out HK164.out (fun k_ h_=>(by obtain ⟨h1_,h2_⟩:=h_;omega)))
   have F168:=Ak (Bk.kept F156.out HK164.out (fun h_=>(by obtain ⟨h1_,h2_⟩:=h_;omega)))
   have F169:=Ak (Bk.kept F157.out HK164.out (fun h_=>(by obtain ⟨h1_,h2_⟩:=h_;omega)))
   have F170:=Ak (Bk.put F158.out e161 rfl)
   have F171:=Ak (Rd.kept F159.out HK164.out (fun h_=>(by obtain ⟨h1_,h2_⟩:=h_;omega)))
   clear z0_ z1_ e161
   try go_wp2
   go_meet
   case rel=>exact ⟨_,⟨F168.out⟩,⟨F169.out⟩,⟨F170.out⟩,⟨F167.out⟩,⟨Rd.less F171.out (by omega)⟩,⟨HB163.out⟩,⟨KP166.out⟩,⟨(by show g6 + 1≤W160.heap.size;have z0_:=Z127.out;have z1_:=T165.out;omega)⟩⟩
  ·have d130:((s.last.length:Int) == 3)=false:=beq_eq_false_iff_ne.mpr c129
   (first|rw [d130]|(simp only [i64_w,i32_w];rw [d130])|skip)
   have K131:=Ak c129
   clear c129
   try go_wp2
   go_meet
   case rel=>exact ⟨_,⟨F123.out⟩,⟨F124.out⟩,⟨F125.out⟩,⟨F122.out⟩,⟨Rd.less F126.out (by omega)⟩,⟨HB118.out⟩,⟨KP121.out⟩,⟨(by show g6 + 1≤W112.heap.size;have z0_:=Z127.out;have z1_:=T120.out;omega)⟩⟩
 case rest =>
  obtain ⟨W128,hW_⟩:∃ x_,x_=wc:=⟨_,rfl⟩
  subst hW_
  obtain ⟨n2_,BK172,BK173,BK174,HR175,RD176,HB177,KP178,HZ179⟩:=hcut
  go_upto_region 5 with (fail)
  go_cut [42] (fun v42_ W180=>∃ (x42_:Bool),v42_ = .bool x42_∧Aside0 (Bk W180 g3 #[.slice A0_0 s.now.length c0_0,.slice A0_1 s.sure.length c0_1,.slice A0_2 s.last.length c0_2,.slice A0_3 s.slast.length c0_3,.slice A0_4 s.floors.length c0_4] 26)∧Aside0 (Bk W180 g4 #[.int .i64 0,.int .i64 0,.int .i64 0,.int .i64 0,.int .i64 0,.string ⟨#[]⟩] 52)∧Aside0 (Bk W180 g6 #[.int .i64 r11,.int .i64 r35,.int .i64 n2_,.int .i64 r52,.int .i64 r69,.string r91] 52)∧Aside0 (StI W180 lo hi (.agg #[.slice A0_0 s.now.length c0_0,.slice A0_1 s.sure.length c0_1,.slice A0_2 s.last.length c0_2,.slice A0_3 s.slast.length c0_3,.slice A0_4 s.floors.length c0_4]) (s))∧Aside0 (Rd w0 W180 g (m + 13))∧Aside0 (Below w0.heap.size w0 W180)∧Aside0 (Kept w W180 (fun k=>g≤k∧k<g + 1))∧Aside0 (g6 + 1≤W180.heap.size)∧Aside0 (x42_=true→(s.floors.length:Int)=3))
  case first =>
   go_upto_region 5 with (fail)
   by_cases c181:(s.floors.length:Int)=3
   ·have d182:((s.floors.length:Int) == 3)=true:=beq_iff_eq.mpr c181
    (first|rw [d182]|(simp only [i64_w,i32_w];rw [d182])|skip)
    have K183:=Ak c181
    clear c181
    go_wp2_with (first|((with_reducible refine gate_dst (N:=35) rfl ?_);refine ev_val (by rfl) (v:=.slice A0_4 s.floors.length c0_4) ?hr ?_;(case hr=>have hc_:W128.cell? ⟨g3,4,none⟩=some (.slice A0_4 s.floors.length c0_4):=(Bk.cell BK172.out 4).trans rfl;first|(go_simp;done)|(go_simp;rfl))))
    refine (pick_c (m:=m + 13) RD176.out HB177.out (by omega)).mono ?_
    rintro e W190 ⟨r184,rfl,h185,h186,hR187,hb191,hk188⟩
    have z0_:=Z127.out
    have z1_:=HZ179.out
    have T193:=Ak (show g6 + 1≤W128.heap.size from (by omega))
    have N194:=Ak (show ¬ (g≤g6∧g6<g + 1) from (by omega))
    have HB195:=Ak (hb191)
    have HK196:=Ak (hk188)
    have KP198:=Ak (Kept.then_ KP178.out HK196.out (fun _ h_=>Or.inl h_))
    have T197:=Ak (Nat.le_trans T193.out HK196.out.1)
    have F199:=Ak (StI.kept HR175.out HK196.out N23.out)
    have F200:=Ak (Bk.kept BK172.out HK196.out N24.out)
    have F201:=Ak (Bk.kept BK173.out HK196.out N25.out)
    have F202:=Ak (Bk.kept BK174.out HK196.out N194.out)
    have F203:=Ak (hR187)
    clear z0_ z1_ hb191 hk188 hR187
    have HP189:=Ak (And.intro h185 h186)
    clear h185 h186
    try go_wp2
    go_meet
    case rel=>exact ⟨_,rfl,⟨F200.out⟩,⟨F201.out⟩,⟨F202.out⟩,⟨F199.out⟩,⟨Rd.less F203.out (by omega)⟩,⟨HB195.out⟩,⟨KP198.out⟩,⟨(by show g6 + 1≤W190.heap.size;have z0_:=Z127.out;have z1_:=T197.out;omega)⟩,⟨fun _=>K183.out⟩⟩
   ·have d182:((s.floors.length:Int) == 3)=false:=beq_eq_false_iff_ne.mpr c181
    (first|rw [d182]|(simp only [i64_w,i32_w];rw [d182])|skip)
    have K183:=Ak c181
    clear c181
    try go_wp2_with (first|((with_reducible refine gate_dst (N:=35) rfl ?_);refine ev_val (by rfl) (v:=.slice A0_4 s.floors.length c0_4) ?hr ?_;(case hr=>have hc_:W128.cell? ⟨g3,4,none⟩=some (.slice A0_4 s.floors.length c0_4):=(Bk.cell BK172.out 4).trans rfl;first|(go_simp;done)|(go_simp;rfl))))
    go_meet
    case rel=>exact ⟨_,rfl,⟨BK172.out⟩,⟨BK173.out⟩,⟨BK174.out⟩,⟨HR175.out⟩,⟨Rd.less RD176.out (by omega)⟩,⟨HB177.out⟩,⟨KP178.out⟩,⟨(by show g6 + 1≤W128.heap.size;have z0_:=Z127.out;have z1_:=HZ179.out;omega)⟩,⟨fun h_=>absurd h_ (by decide)⟩⟩
  case rest =>
   obtain ⟨W180,hW_⟩:∃ x_,x_=wc:=⟨_,rfl⟩
   subst hW_
   obtain ⟨x42_,rfl,BK204,BK205,BK206,HR207,RD208,HB209,KP210,HZ211,HX212⟩:=hcut
   have HX42:=HX212
   go_upto_if 42 with (fail)
   go_cut [] (fun W213=>∃ (n1_:Int),Aside0 (Bk W213 g3 #[.slice A0_0 s.now.length c0_0,.slice A0_1 s.sure.length c0_1,.slice A0_2 s.last.length c0_2,.slice A0_3 s.slast.length c0_3,.slice A0_4 s.floors.length c0_4] 26)∧Aside0 (Bk W213 g4 #[.int .i64 0,.int .i64 0,.int .i64 0,.int .i64 0,.int .i64 0,.string ⟨#[]⟩] 52)∧Aside0 (Bk W213 g6 #[.int .i64 r11,.int .i64 n1_,.int .i64 n2_,.int .i64 r52,.int .i64 r69,.string r91] 52)∧Aside0 (StI W213 lo hi (.agg #[.slice A0_0 s.now.length c0_0,.slice A0_1 s.sure.length c0_1,.slice A0_2 s.last.length c0_2,.slice A0_3 s.slast.length c0_3,.slice A0_4 s.floors.length c0_4]) (s))∧Aside0 (Rd w0 W213 g (m + 10))∧Aside0 (Below w0.heap.size w0 W213)∧Aside0 (Kept w W213 (fun k=>g≤k∧k<g + 1))∧Aside0 (g6 + 1≤W213.heap.size))
   case first =>
    cases x42_
    ·skip
     try go_wp2
     go_meet
     case rel=>exact ⟨_,⟨BK204.out⟩,⟨BK205.out⟩,⟨BK206.out⟩,⟨HR207.out⟩,⟨Rd.less RD208.out (by omega)⟩,⟨HB209.out⟩,⟨KP210.out⟩,⟨(by show g6 + 1≤W180.heap.size;have z0_:=Z127.out;have z1_:=HZ211.out;omega)⟩⟩
    ·skip
     go_upto_region 6 with (fail)
     have HI214:=Ak (show 0≤(r11:Int)∧(r11:Int)<((s.floors).length:Int) from (by have l_:=HX42.out rfl;have i0_:=HP16.out;have i1_:=HP40.out;have i2_:=HP57.out;have i3_:=HP74.out;exact ⟨by omega,by omega⟩))
     obtain ⟨ad215,rfl⟩:=StC.floors_form (StI.toC HR207.out) HI214.out.1 HI214.out.2
     have pHI214:=eq_true HI214.out.1
     have qHI214:=eq_true HI214.out.2
     go_wp2_with (fail)
     refine start_ (n:=10) (S:=fun w'=>Bk w' g3 #[.slice A0_0 s.now.length c0_0,.slice A0_1 s.sure.length c0_1,.slice A0_2 s.last.length c0_2,.slice A0_3 s.slast.length c0_3,.slice (some ad215) s.floors.length c0_4] 26∧w'.cell? (ad215.add (r11).toNat)=some (.int .i64 (rd s.floors r11))) (ds:=[9]) #[false,false,false,false,false,false,false,false,false,false] (by kernel_rfl) rfl rfl ⟨(show Bk W180 g3 #[.slice A0_0 s.now.length c0_0,.slice A0_1 s.sure.length c0_1,.slice A0_2 s.last.length c0_2,.slice A0_3 s.slast.length c0_3,.slice (some ad215) s.floors.length c0_4] 26 from BK204.out),(show W180.cell? (ad215.add (r11).toNat)=some (.int .i64 (rd s.floors r11)) from (StC.floors_read (StI.toC HR207.out) HI214.out.1 HI214.out.2))⟩ (fun hHeld=>?_)
     clear hHeld
     refine world_at (w:=W180) (below_drew0 _) (fun W216 HB217=>?_)
     refine pure_ (i:=0) (N:=some 43) (v:=?_) (a':=?_) #[T0,F0,F0,F0,F0,F0,F0,F0,F0,F0] rfl rfl (by kernel_rfl) (fun _ _ _ h=>h) (Or.inl ⟨by rfl,?_⟩) ?_ ?_
     rotate_left
     ·intro w'
      go_simp
      with_reducible rfl
     rotate_left
     ·simp only [Act.put,zzA,zzB,zzC,i64_w,i32_w]
      rfl
     refine take_ (i:=1) (N:=some 44) (v:=.slice (some ad215) s.floors.length c0_4) (a':=?_) #[T0,T0,F0,F0,F0,F0,F0,F0,F0,F0] rfl rfl (by kernel_rfl) (fun _ _ _ h=>h) (Or.inl ⟨by rfl,?_⟩) ⟨(Bk.below BK204.out HB217.out),(show W216.cell? (ad215.add (r11).toNat)=some (.int .i64 (rd s.floors r11)) from (StC.floors_read (StI.toC (StI.below HR207.out HB217.out)) HI214.out.1 HI214.out.2))⟩ ?_ ?_
     ·rintro w' ⟨s0_,s1_⟩
      have hc_:w'.cell? ⟨g3,4,none⟩=some (.slice (some ad215) s.floors.length c0_4):=(Bk.cell s0_ 4).trans rfl
      first|(go_simp;done)|(go_simp;with_reducible rfl)|(go_simp;rfl)
     rotate_left
     ·simp only [Act.put,zzA,zzB,zzC,i64_w,i32_w]
      rfl
     refine pure_ (i:=2) (N:=some 45) (v:=?_) (a':=?_) #[T0,T0,T0,F0,F0,F0,F0,F0,F0,F0] rfl rfl (by kernel_rfl) (fun _ _ _ h=>h) (Or.inl ⟨by rfl,?_⟩) ?_ ?_
     rotate_left
     ·intro w'
      go_simp
      with_reducible rfl
     rotate_left
     ·simp only [Act.put,zzA,zzB,zzC,i64_w,i32_w]
      rfl
     refine pure_ (i:=3) (N:=some 46) (v:=?_) (a':=?_) #[T0,T0,T0,T0,F0,F0,F0,F0,F0,F0] rfl rfl (by kernel_rfl) (fun _ _ _ h=>h) (Or.inl ⟨by rfl,?_⟩) ?_ ?_
     rotate_left
     ·intro w'
      go_simp
      with_reducible rfl
     rotate_left
     ·simp only [Act.put,zzA,zzB,zzC,i64_w,i32_w]
      rfl
     refine take_ (i:=4) (N:=some 47) (v:=.int .i64 (rd s.floors r11)) (a':=?_) #[T0,T0,T0,T0,T0,F0,F0,F0,F0,F0] rfl rfl (by kernel_rfl) (fun _ _ _ h=>h) (Or.inl ⟨by rfl,?_⟩) ⟨(Bk.below BK204.out HB217.out),(show W216.cell? (ad215.add (r11).toNat)=some (.int .i64 (rd s.floors r11)) from (StC.floors_read (StI.toC (StI.below HR207.out HB217.out)) HI214.out.1 HI214.out.2))⟩ ?_ ?_
     ·rintro w' ⟨s0_,s1_⟩
      first|(go_simp;done)|(go_simp;with_reducible rfl)|(go_simp;rfl)
     rotate_left
     ·simp only [Act.put,zzA,zzB,zzC,i64_w,i32_w]
      rfl
     refine pure_ (i:=5) (N:=some 48) (v:=?_) (a':=?_) #[T0,T0,T0,T0,T0,T0,F0,F0,F0,F0] rfl rfl (by kernel_rfl) (fun _ _ _ h=>h) (Or.inl ⟨by rfl,?_⟩) ?_ ?_
     rotate_left
     ·intro w'
      go_simp
      with_reducible rfl
     rotate_left
     ·simp only [Act.put,zzA,zzB,zzC,i64_w,i32_w]
      rfl
     refine one_ (i:=6) (N:=some 49) #[T0,T0,T0,T0,T0,T0,T0,F0,F0,F0] rfl rfl (by kernel_rfl) (by decide) (fun K hK=>?_)
     refine goes_ Try.func60 (by kernel_rfl) rfl #[.pointer (some ⟨g,0,none⟩),.int .i64 2] (by rfl) rfl rfl (by (try simp only [List.map_toArray,List.map_cons,List.map_nil]);first|done|rfl) ?_
     refine (pick_c (m:=m + 12) (Rd.below RD208.out HB217.out) (below_step HB209.out HB217.out) (by omega)).mono ?_
     rintro e W224 ⟨r218,rfl,h219,h220,hR221,hb225,hk222⟩
     have z0_:=Z127.out
     have z1_:=HZ211.out
     have z2_:=HB217.out.size
     have T227:=Ak (show g6 + 1≤W216.heap.size from (by omega))
     have N228:=Ak (show ¬ (g≤g6∧g6<g + 1) from (by omega))
     have HB229:=Ak (hb225)
     have HK230:=Ak (hk222)
     have KP232:=Ak (Kept.then_ (Kept.below KP210.out HB217.out) HK230.out (fun _ h_=>Or.inl h_))
     have T231:=Ak (Nat.le_trans T227.out HK230.out.1)
     have F233:=Ak (StI.kept (StI.below HR207.out HB217.out) HK230.out N23.out)
     have F234:=Ak (Bk.kept (Bk.below BK204.out HB217.out) HK230.out N24.out)
     have F235:=Ak (Bk.kept (Bk.below BK205.out HB217.out) HK230.out N25.out)
     have F236:=Ak (Bk.kept (Bk.below BK206.out HB217.out) HK230.out N228.out)
     have F237:=Ak (hR221)
     clear z0_ z1_ z2_ hb225 hk222 hR221
     have HP223:=Ak (And.intro h219 h220)
     clear h219 h220
     refine ⟨_,rfl,?_⟩
     refine hK.out _ _ ⟨F234.out,(show W224.cell? (ad215.add (r11).toNat)=some (.int .i64 (rd s.floors r11)) from (StC.floors_read (StI.toC F233.out) HI214.out.1 HI214.out.2))⟩ (fun hHeld=>?_)
     clear hHeld hK K
     refine norm_ (a':=?_) ?_ ?_
     rotate_left
     ·show Act.put _ (some 49) _=_
      simp only [Act.put,zzA,zzB,zzC,i64_w,i32_w]
      rfl
     refine pure_ (i:=7) (N:=some 50) (v:=?_) (a':=?_) #[T0,T0,T0,T0,T0,T0,T0,T0,F0,F0] rfl rfl (by kernel_rfl) (fun _ _ _ h=>h) (Or.inl ⟨by rfl,?_⟩) ?_ ?_
     rotate_left
     ·intro w'
      go_simp
      with_reducible rfl
     rotate_left
     ·simp only [Act.put,zzA,zzB,zzC,i64_w,i32_w]
      rfl
     refine pure_ (i:=8) (N:=some 51) (v:=?_) (a':=?_) #[T0,T0,T0,T0,T0,T0,T0,T0,T0,F0] rfl rfl (by kernel_rfl) (fun _ _ _ h=>h) (Or.inl ⟨by rfl,?_⟩) ?_ ?_
     rotate_left
     ·intro w'
      go_simp
      with_reducible rfl
     rotate_left
     ·simp only [Act.put,zzA,zzB,zzC,i64_w,i32_w]
      rfl
     refine last_ (i:=9) (N:=none) #[T0,T0,T0,T0,T0,T0,T0,T0,T0,T0] rfl rfl (by kernel_rfl) (by decide) (fun K hK=>?_)
     refine skip_ (w1:=W224.setCell ⟨g6,1,none⟩ (.int .i64 (wrap64 ((rd s.floors r11) + r218)))) (by rfl) rfl ?_ ?_
     ·have hc_:W224.cell? ⟨g6,1,none⟩=some (.int .i64 r35):=(Bk.cell F236.out 1).trans rfl
      have hf_:=Bk.hot F236.out 1
      first|(go_simp;done)|(go_simp;rfl)
     refine hK.out _ _ ?_
     clear hK K
     refine done_ (by kernel_rfl) ?_
     refine set_event (fun W238 e239=>?_)
     have z0_:=Z127.out
     have z1_:=T231.out
     have T240:=Ak (show g6 + 1≤W224.heap.size from (by omega))
     have HB241:=Ak (below_at HB229.out (below_setcell e239) (by show w0.heap.size≤g6;omega))
     have HK242:=Ak (kept_set e239)
     have KP244:=Ak (kept_new KP232.out HK242.out (by show w.heap.size≤g6;omega))
     have T243:=Ak (Nat.le_trans T240.out HK242.out.1)
     have F245:=Ak (StI.kept F233.out HK242.out (fun k_ h_=>(by obtain ⟨h1_,h2_⟩:=h_;omega)))
     have F246:=Ak (Bk.kept F234.out HK242.out (fun h_=>(by obtain ⟨h1_,h2_⟩:=h_;omega)))
     have F247:=Ak (Bk.kept F235.out HK242.out (fun h_=>(by obtain ⟨h1_,h2_⟩:=h_;omega)))
     have F248:=Ak (Bk.put F236.out e239 rfl)
     have F249:=Ak (Rd.kept F237.out HK242.out (fun h_=>(by obtain ⟨h1_,h2_⟩:=h_;omega)))
     clear z0_ z1_ e239
     try go_wp2
     go_meet
     case rel=>exact ⟨_,⟨F246.out⟩,⟨F247.out⟩,⟨F248.out⟩,⟨F245.out⟩,⟨Rd.less F249.out (by omega)⟩,⟨HB241.out⟩,⟨KP244.out⟩,⟨(by show g6 + 1≤W238.heap.size;have z0_:=Z127.out;have z1_:=T243.out;omega)⟩⟩
   case rest =>
    obtain ⟨W213,hW_⟩:∃ x_,x_=wc:=⟨_,rfl⟩
    subst hW_
    obtain ⟨n1_,BK250,BK251,BK252,HR253,RD254,HB255,KP256,HZ257⟩:=hcut
    go_wp2_with (fail)
    refine (pick_c (m:=m + 9) RD254.out HB255.out (by omega)).mono ?_
    rintro e W264 ⟨r258,rfl,h259,h260,hR261,hb265,hk262⟩
    have z0_:=Z127.out
    have z1_:=HZ257.out
    have T267:=Ak (show g6 + 1≤W213.heap.size from (by omega))
    have N268:=Ak (show ¬ (g≤g6∧g6<g + 1) from (by omega))
    have HB269:=Ak (hb265)
    have HK270:=Ak (hk262)
    have KP272:=Ak (Kept.then_ KP256.out HK270.out (fun _ h_=>Or.inl h_))
    have T271:=Ak (Nat.le_trans T267.out HK270.out.1)
    have F273:=Ak (StI.kept HR253.out HK270.out N23.out)
    have F274:=Ak (Bk.kept BK250.out HK270.out N24.out)
    have F275:=Ak (Bk.kept BK251.out HK270.out N25.out)
    have F276:=Ak (Bk.kept BK252.out HK270.out N268.out)
    have F277:=Ak (hR261)
    clear z0_ z1_ hb265 hk262 hR261
    have HP263:=Ak (And.intro h259 h260)
    clear h259 h260
    go_upto_if 54 with (fail)
    by_cases c278:r258=0
    ·have d279:(r258 == 0)=true:=beq_iff_eq.mpr c278
     (first|rw [d279]|(simp only [i64_w,i32_w];rw [d279])|skip)
     have K280:=Ak c278
     clear c278
     go_wp2_with (fail)
     refine (whoDraw_c (m:=m + 7) F277.out HB269.out).mono ?_
     rintro e W284 ⟨r281,rfl,hR282,hb285,hk283⟩
     have HB287:=Ak (hb285)
     have HK288:=Ak (hk283)
     have KP290:=Ak (Kept.then_ KP272.out HK288.out (fun _ h_=>Or.inl h_))
     have T289:=Ak (Nat.le_trans T271.out HK288.out.1)
     have F291:=Ak (StI.kept F273.out HK288.out N23.out)
     have F292:=Ak (Bk.kept F274.out HK288.out N24.out)
     have F293:=Ak (Bk.kept F275.out HK288.out N25.out)
     have F294:=Ak (Bk.kept F276.out HK288.out N268.out)
     have F295:=Ak (hR282)
     clear hb285 hk283 hR282
     go_wp2_with (first|((with_reducible refine gate_store (t:=3) (p:=58) rfl ?_);refine ev_setcell (by rfl) rfl (g:=g6) (i:=0) (v:=.int .i64 r281) ?hr ?_;(case hr=>have hc_:W284.cell? ⟨g6,0,none⟩=some (.int .i64 r11):=(Bk.cell F294.out 0).trans rfl;have hf_:=Bk.hot F294.out 0;first|(go_simp;done)|(go_simp;rfl));intro W296 e297;have z0_:=Z127.out;have z1_:=T289.out;have T298:=Ak (show g6 + 1≤W284.heap.size from (by omega));have HB299:=Ak (below_at HB287.out (below_setcell e297) (by show w0.heap.size≤g6;omega));have HK300:=Ak (kept_set e297);have KP302:=Ak (kept_new KP290.out HK300.out (by show w.heap.size≤g6;omega));have T301:=Ak (Nat.le_trans T298.out HK300.out.1);have F303:=Ak (StI.kept F291.out HK300.out (fun k_ h_=>(by obtain ⟨h1_,h2_⟩:=h_;omega)));have F304:=Ak (Bk.kept F292.out HK300.out (fun h_=>(by obtain ⟨h1_,h2_⟩:=h_;omega)));have F305:=Ak (Bk.kept F293.out HK300.out (fun h_=>(by obtain ⟨h1_,h2_⟩:=h_;omega)));have F306:=Ak (Bk.put F294.out e297 rfl);have F307:=Ak (Rd.kept F295.out HK300.out (fun h_=>(by obtain ⟨h1_,h2_⟩:=h_;omega)));clear z0_ z1_ e297)|((with_reducible refine gate_dst (N:=89) rfl ?_);refine ev_load rfl (N:=89) rfl rfl (g:=g6) rfl (cs:=#[.int .i64 r281,.int .i64 n1_,.int .i64 n2_,.int .i64 r52,.int .i64 r69,.string r91]) F306.out hu52 rfl (by kernel_rfl) ?_)|((with_reducible refine gate_store (t:=52) (p:=4) rfl ?_);refine ev_put (by rfl) rfl rfl (g:=g4) rfl (cs:=#[.int .i64 r281,.int .i64 n1_,.int .i64 n2_,.int .i64 r52,.int .i64 r69,.string r91]) rfl F305.out (by kernel_rfl) rfl rfl ?_;intro W308 BK309 HB310 HK311;have z0_:=Z127.out;have z1_:=T301.out;have T312:=Ak (show g6 + 1≤W296.heap.size from (by omega));have HB313:=Ak (below_at HB299.out HB310.out (by show w0.heap.size≤g4;omega));have HK314:=Ak (HK311.out);have KP316:=Ak (kept_new KP302.out HK314.out (by show w.heap.size≤g4;omega));have T315:=Ak (Nat.le_trans T312.out HK314.out.1);have F317:=Ak (StI.kept F303.out HK314.out (fun k_ h_=>(by obtain ⟨h1_,h2_⟩:=h_;omega)));have F318:=Ak (Bk.kept F304.out HK314.out (fun h_=>(by obtain ⟨h1_,h2_⟩:=h_;omega)));have F319:=Ak (BK309.out);have F320:=Ak (Bk.kept F306.out HK314.out (fun h_=>(by obtain ⟨h1_,h2_⟩:=h_;omega)));have F321:=Ak (Rd.kept F307.out HK314.out (fun h_=>(by obtain ⟨h1_,h2_⟩:=h_;omega)));clear z0_ z1_))
     try go_wp2
     refine bodyPost_ret (results_cell_row rfl _ _ g4 52 #[.int .i64 r281,.int .i64 n1_,.int .i64 n2_,.int .i64 r52,.int .i64 r69,.string r91] (0,0) _ rfl F319.out hu52 rfl (by kernel_rfl)) rfl ?_
     exact ⟨_,_,_,_,_,_,rfl,mem_small HM95.out (by decide),Rd.less F321.out (by omega),HB313.out,KP316.out⟩
    ·have d279:(r258 == 0)=false:=beq_eq_false_iff_ne.mpr c278
     (first|rw [d279]|(simp only [i64_w,i32_w];rw [d279])|skip)
     have K280:=Ak c278
     clear c278
     go_upto_if 59 with (fail)
     by_cases c322:r258=1
     ·have d323:(r258 == 1)=true:=beq_iff_eq.mpr c322
      (first|rw [d323]|(simp only [i64_w,i32_w];rw [d323])|skip)
      have K324:=Ak c322
      clear c322
      go_wp2_with (first|((with_reducible refine gate_dst (N:=62) rfl ?_);refine ev_lit (Kd.int .i64) 3 ?hg (N:=62) ?hd (xs:=([(-1),3]:List Int)) (inner:=[.int .i64 (-1),.int .i64 3]) ?hr (reps_int ([(-1),3]:List Int)) (by simp) ?_;(case hd=>rfl);(case hg=>rfl);(case hr=>first|(go_simp;done)|(go_simp;rfl));intro A325 c326 W328 HL327 HB329))
      refine (num_c (m:=m + 8) (Rd.below F277.out HB329.out) (below_step HB269.out HB329.out) HL327.out.1 HL327.out.2.1 (fun ad_ e_ h_=>(by have q_:=HL327.out.2.2 ad_ e_ h_;show ad_.block ≠ g;have z0_:=Z127.out;have z1_:=T271.out;have z2_:=HB329.out.size;omega)) (by decide)).mono ?_
      rintro e W335 ⟨r330,rfl,hm331,hR332,hb336,hk333⟩
      have z0_:=Z127.out
      have z1_:=T271.out
      have z2_:=HB329.out.size
      have T338:=Ak (show g6 + 1≤W328.heap.size from (by omega))
      have HB339:=Ak (hb336)
      have HK340:=Ak (hk333)
      have KP342:=Ak (Kept.then_ (Kept.below KP272.out HB329.out) HK340.out (fun _ h_=>Or.inl h_))
      have T341:=Ak (Nat.le_trans T338.out HK340.out.1)
      have F343:=Ak (StI.kept (StI.below F273.out HB329.out) HK340.out N23.out)
      have F344:=Ak (Bk.kept (Bk.below F274.out HB329.out) HK340.out N24.out)
      have F345:=Ak (Bk.kept (Bk.below F275.out HB329.out) HK340.out N25.out)
      have F346:=Ak (Bk.kept (Bk.below F276.out HB329.out) HK340.out N268.out)
      have F347:=Ak (hR332)
      clear z0_ z1_ z2_ hb336 hk333 hR332
      have HM334:=Ak hm331
      clear hm331
      go_wp2_with (first|((with_reducible refine gate_store (t:=3) (p:=64) rfl ?_);refine ev_setcell (by rfl) rfl (g:=g6) (i:=3) (v:=.int .i64 r330) ?hr ?_;(case hr=>have hc_:W335.cell? ⟨g6,3,none⟩=some (.int .i64 r52):=(Bk.cell F346.out 3).trans rfl;have hf_:=Bk.hot F346.out 3;first|(go_simp;done)|(go_simp;rfl));intro W348 e349;have z0_:=Z127.out;have z1_:=T341.out;have T350:=Ak (show g6 + 1≤W335.heap.size from (by omega));have HB351:=Ak (below_at HB339.out (below_setcell e349) (by show w0.heap.size≤g6;omega));have HK352:=Ak (kept_set e349);have KP354:=Ak (kept_new KP342.out HK352.out (by show w.heap.size≤g6;omega));have T353:=Ak (Nat.le_trans T350.out HK352.out.1);have F355:=Ak (StI.kept F343.out HK352.out (fun k_ h_=>(by obtain ⟨h1_,h2_⟩:=h_;omega)));have F356:=Ak (Bk.kept F344.out HK352.out (fun h_=>(by obtain ⟨h1_,h2_⟩:=h_;omega)));have F357:=Ak (Bk.kept F345.out HK352.out (fun h_=>(by obtain ⟨h1_,h2_⟩:=h_;omega)));have F358:=Ak (Bk.put F346.out e349 rfl);have F359:=Ak (Rd.kept F347.out HK352.out (fun h_=>(by obtain ⟨h1_,h2_⟩:=h_;omega)));clear z0_ z1_ e349)|((with_reducible refine gate_dst (N:=89) rfl ?_);refine ev_load rfl (N:=89) rfl rfl (g:=g6) rfl (cs:=#[.int .i64 r11,.int .i64 n1_,.int .i64 n2_,.int .i64 r330,.int .i64 r69,.string r91]) F358.out hu52 rfl (by kernel_rfl) ?_)|((with_reducible refine gate_store (t:=52) (p:=4) rfl ?_);refine ev_put (by rfl) rfl rfl (g:=g4) rfl (cs:=#[.int .i64 r11,.int .i64 n1_,.int .i64 n2_,.int .i64 r330,.int .i64 r69,.string r91]) rfl F357.out (by kernel_rfl) rfl rfl ?_;intro W360 BK361 HB362 HK363;have z0_:=Z127.out;have z1_:=T353.out;have T364:=Ak (show g6 + 1≤W348.heap.size from (by omega));have HB365:=Ak (below_at HB351.out HB362.out (by show w0.heap.size≤g4;omega));have HK366:=Ak (HK363.out);have KP368:=Ak (kept_new KP354.out HK366.out (by show w.heap.size≤g4;omega));have T367:=Ak (Nat.le_trans T364.out HK366.out.1);have F369:=Ak (StI.kept F355.out HK366.out (fun k_ h_=>(by obtain ⟨h1_,h2_⟩:=h_;omega)));have F370:=Ak (Bk.kept F356.out HK366.out (fun h_=>(by obtain ⟨h1_,h2_⟩:=h_;omega)));have F371:=Ak (BK361.out);have F372:=Ak (Bk.kept F358.out HK366.out (fun h_=>(by obtain ⟨h1_,h2_⟩:=h_;omega)));have F373:=Ak (Rd.kept F359.out HK366.out (fun h_=>(by obtain ⟨h1_,h2_⟩:=h_;omega)));clear z0_ z1_))
      try go_wp2
      refine bodyPost_ret (results_cell_row rfl _ _ g4 52 #[.int .i64 r11,.int .i64 n1_,.int .i64 n2_,.int .i64 r330,.int .i64 r69,.string r91] (0,0) _ rfl F371.out hu52 rfl (by kernel_rfl)) rfl ?_
      exact ⟨_,_,_,_,_,_,rfl,mem_small HM95.out (by decide),Rd.less F373.out (by omega),HB365.out,KP368.out⟩
     ·have d323:(r258 == 1)=false:=beq_eq_false_iff_ne.mpr c322
      (first|rw [d323]|(simp only [i64_w,i32_w];rw [d323])|skip)
      have K324:=Ak c322
      clear c322
      go_upto_if 65 with (fail)
      by_cases c374:r258=2
      ·have d375:(r258 == 2)=true:=beq_iff_eq.mpr c374
       (first|rw [d375]|(simp only [i64_w,i32_w];rw [d375])|skip)
       have K376:=Ak c374
       clear c374
       go_wp2_with (first|((with_reducible refine gate_dst (N:=68) rfl ?_);refine ev_lit (Kd.int .i64) 3 ?hg (N:=68) ?hd (xs:=([(-1),48,9223372036854775807]:List Int)) (inner:=[.int .i64 (-1),.int .i64 48,.int .i64 9223372036854775807]) ?hr (reps_int ([(-1),48,9223372036854775807]:List Int)) (by simp) ?_;(case hd=>rfl);(case hg=>rfl);(case hr=>first|(go_simp;done)|(go_simp;rfl));intro A377 c378 W380 HL379 HB381))
       refine (num_c (m:=m + 8) (Rd.below F277.out HB381.out) (below_step HB269.out HB381.out) HL379.out.1 HL379.out.2.1 (fun ad_ e_ h_=>(by have q_:=HL379.out.2.2 ad_ e_ h_;show ad_.block ≠ g;have z0_:=Z127.out;have z1_:=T271.out;have z2_:=HB381.out.size;omega)) (by decide)).mono ?_
       rintro e W387 ⟨r382,rfl,hm383,hR384,hb388,hk385⟩
       have z0_:=Z127.out
       have z1_:=T271.out
       have z2_:=HB381.out.size
       have T390:=Ak (show g6 + 1≤W380.heap.size from (by omega))
       have HB391:=Ak (hb388)
       have HK392:=Ak (hk385)
       have KP394:=Ak (Kept.then_ (Kept.below KP272.out HB381.out) HK392.out (fun _ h_=>Or.inl h_))
       have T393:=Ak (Nat.le_trans T390.out HK392.out.1)
       have F395:=Ak (StI.kept (StI.below F273.out HB381.out) HK392.out N23.out)
       have F396:=Ak (Bk.kept (Bk.below F274.out HB381.out) HK392.out N24.out)
       have F397:=Ak (Bk.kept (Bk.below F275.out HB381.out) HK392.out N25.out)
       have F398:=Ak (Bk.kept (Bk.below F276.out HB381.out) HK392.out N268.out)
       have F399:=Ak (hR384)
       clear z0_ z1_ z2_ hb388 hk385 hR384
       have HM386:=Ak hm383
       clear hm383
       go_wp2_with (first|((with_reducible refine gate_store (t:=3) (p:=70) rfl ?_);refine ev_setcell (by rfl) rfl (g:=g6) (i:=4) (v:=.int .i64 r382) ?hr ?_;(case hr=>have hc_:W387.cell? ⟨g6,4,none⟩=some (.int .i64 r69):=(Bk.cell F398.out 4).trans rfl;have hf_:=Bk.hot F398.out 4;first|(go_simp;done)|(go_simp;rfl));intro W400 e401;have z0_:=Z127.out;have z1_:=T393.out;have T402:=Ak (show g6 + 1≤W387.heap.size from (by omega));have HB403:=Ak (below_at HB391.out (below_setcell e401) (by show w0.heap.size≤g6;omega));have HK404:=Ak (kept_set e401);have KP406:=Ak (kept_new KP394.out HK404.out (by show w.heap.size≤g6;omega));have T405:=Ak (Nat.le_trans T402.out HK404.out.1);have F407:=Ak (StI.kept F395.out HK404.out (fun k_ h_=>(by obtain ⟨h1_,h2_⟩:=h_;omega)));have F408:=Ak (Bk.kept F396.out HK404.out (fun h_=>(by obtain ⟨h1_,h2_⟩:=h_;omega)));have F409:=Ak (Bk.kept F397.out HK404.out (fun h_=>(by obtain ⟨h1_,h2_⟩:=h_;omega)));have F410:=Ak (Bk.put F398.out e401 rfl);have F411:=Ak (Rd.kept F399.out HK404.out (fun h_=>(by obtain ⟨h1_,h2_⟩:=h_;omega)));clear z0_ z1_ e401)|((with_reducible refine gate_dst (N:=89) rfl ?_);refine ev_load rfl (N:=89) rfl rfl (g:=g6) rfl (cs:=#[.int .i64 r11,.int .i64 n1_,.int .i64 n2_,.int .i64 r52,.int .i64 r382,.string r91]) F410.out hu52 rfl (by kernel_rfl) ?_)|((with_reducible refine gate_store (t:=52) (p:=4) rfl ?_);refine ev_put (by rfl) rfl rfl (g:=g4) rfl (cs:=#[.int .i64 r11,.int .i64 n1_,.int .i64 n2_,.int .i64 r52,.int .i64 r382,.string r91]) rfl F409.out (by kernel_rfl) rfl rfl ?_;intro W412 BK413 HB414 HK415;have z0_:=Z127.out;have z1_:=T405.out;have T416:=Ak (show g6 + 1≤W400.heap.size from (by omega));have HB417:=Ak (below_at HB403.out HB414.out (by show w0.heap.size≤g4;omega));have HK418:=Ak (HK415.out);have KP420:=Ak (kept_new KP406.out HK418.out (by show w.heap.size≤g4;omega));have T419:=Ak (Nat.le_trans T416.out HK418.out.1);have F421:=Ak (StI.kept F407.out HK418.out (fun k_ h_=>(by obtain ⟨h1_,h2_⟩:=h_;omega)));have F422:=Ak (Bk.kept F408.out HK418.out (fun h_=>(by obtain ⟨h1_,h2_⟩:=h_;omega)));have F423:=Ak (BK413.out);have F424:=Ak (Bk.kept F410.out HK418.out (fun h_=>(by obtain ⟨h1_,h2_⟩:=h_;omega)));have F425:=Ak (Rd.kept F411.out HK418.out (fun h_=>(by obtain ⟨h1_,h2_⟩:=h_;omega)));clear z0_ z1_))
       try go_wp2
       refine bodyPost_ret (results_cell_row rfl _ _ g4 52 #[.int .i64 r11,.int .i64 n1_,.int .i64 n2_,.int .i64 r52,.int .i64 r382,.string r91] (0,0) _ rfl F423.out hu52 rfl (by kernel_rfl)) rfl ?_
       exact ⟨_,_,_,_,_,_,rfl,mem_small HM95.out (by decide),Rd.less F425.out (by omega),HB417.out,KP420.out⟩
      ·have d375:(r258 == 2)=false:=beq_eq_false_iff_ne.mpr c374
       (first|rw [d375]|(simp only [i64_w,i32_w];rw [d375])|skip)
       have K376:=Ak c374
       clear c374
       go_upto_if 71 with (fail)
       by_cases c426:r258=3
       ·have d427:(r258 == 3)=true:=beq_iff_eq.mpr c426
        (first|rw [d427]|(simp only [i64_w,i32_w];rw [d427])|skip)
        have K428:=Ak c426
        clear c426
        go_wp2_with (first|((with_reducible refine gate_dst (N:=74) rfl ?_);refine ev_lit Kd.string 9 ?hg (N:=74) ?hd (xs:=([(⟨#[]⟩:ByteArray),(⟨#[65]⟩:ByteArray),(⟨#[97,32,98]⟩:ByteArray)]:List ByteArray)) (inner:=[.string ⟨#[]⟩,.string ⟨#[65]⟩,.string ⟨#[97,32,98]⟩]) ?hr (reps_str ([(⟨#[]⟩:ByteArray),(⟨#[65]⟩:ByteArray),(⟨#[97,32,98]⟩:ByteArray)]:List ByteArray)) (by simp) ?_;(case hd=>rfl);(case hg=>rfl);(case hr=>first|(go_simp;done)|(go_simp;rfl));intro A429 c430 W432 HL431 HB433))
        refine (of_c (m:=m + 8) (Rd.below F277.out HB433.out) (below_step HB269.out HB433.out) HL431.out.1 HL431.out.2.1 (fun ad_ e_ h_=>(by have q_:=HL431.out.2.2 ad_ e_ h_;show ad_.block ≠ g;have z0_:=Z127.out;have z1_:=T271.out;have z2_:=HB433.out.size;omega)) (by decide)).mono ?_
        rintro e W439 ⟨r434,rfl,hm435,hR436,hb440,hk437⟩
        have z0_:=Z127.out
        have z1_:=T271.out
        have z2_:=HB433.out.size
        have T442:=Ak (show g6 + 1≤W432.heap.size from (by omega))
        have HB443:=Ak (hb440)
        have HK444:=Ak (hk437)
        have KP446:=Ak (Kept.then_ (Kept.below KP272.out HB433.out) HK444.out (fun _ h_=>Or.inl h_))
        have T445:=Ak (Nat.le_trans T442.out HK444.out.1)
        have F447:=Ak (StI.kept (StI.below F273.out HB433.out) HK444.out N23.out)
        have F448:=Ak (Bk.kept (Bk.below F274.out HB433.out) HK444.out N24.out)
        have F449:=Ak (Bk.kept (Bk.below F275.out HB433.out) HK444.out N25.out)
        have F450:=Ak (Bk.kept (Bk.below F276.out HB433.out) HK444.out N268.out)
        have F451:=Ak (hR436)
        clear z0_ z1_ z2_ hb440 hk437 hR436
        have HM438:=Ak hm435
        clear hm435
        go_wp2_with (first|((with_reducible refine gate_store (t:=9) (p:=76) rfl ?_);refine ev_setcell (by rfl) rfl (g:=g6) (i:=5) (v:=.string r434) ?hr ?_;(case hr=>have hc_:W439.cell? ⟨g6,5,none⟩=some (.string r91):=(Bk.cell F450.out 5).trans rfl;have hf_:=Bk.hot F450.out 5;first|(go_simp;done)|(go_simp;rfl));intro W452 e453;have z0_:=Z127.out;have z1_:=T445.out;have T454:=Ak (show g6 + 1≤W439.heap.size from (by omega));have HB455:=Ak (below_at HB443.out (below_setcell e453) (by show w0.heap.size≤g6;omega));have HK456:=Ak (kept_set e453);have KP458:=Ak (kept_new KP446.out HK456.out (by show w.heap.size≤g6;omega));have T457:=Ak (Nat.le_trans T454.out HK456.out.1);have F459:=Ak (StI.kept F447.out HK456.out (fun k_ h_=>(by obtain ⟨h1_,h2_⟩:=h_;omega)));have F460:=Ak (Bk.kept F448.out HK456.out (fun h_=>(by obtain ⟨h1_,h2_⟩:=h_;omega)));have F461:=Ak (Bk.kept F449.out HK456.out (fun h_=>(by obtain ⟨h1_,h2_⟩:=h_;omega)));have F462:=Ak (Bk.put F450.out e453 rfl);have F463:=Ak (Rd.kept F451.out HK456.out (fun h_=>(by obtain ⟨h1_,h2_⟩:=h_;omega)));clear z0_ z1_ e453)|((with_reducible refine gate_dst (N:=89) rfl ?_);refine ev_load rfl (N:=89) rfl rfl (g:=g6) rfl (cs:=#[.int .i64 r11,.int .i64 n1_,.int .i64 n2_,.int .i64 r52,.int .i64 r69,.string r434]) F462.out hu52 rfl (by kernel_rfl) ?_)|((with_reducible refine gate_store (t:=52) (p:=4) rfl ?_);refine ev_put (by rfl) rfl rfl (g:=g4) rfl (cs:=#[.int .i64 r11,.int .i64 n1_,.int .i64 n2_,.int .i64 r52,.int .i64 r69,.string r434]) rfl F461.out (by kernel_rfl) rfl rfl ?_;intro W464 BK465 HB466 HK467;have z0_:=Z127.out;have z1_:=T457.out;have T468:=Ak (show g6 + 1≤W452.heap.size from (by omega));have HB469:=Ak (below_at HB455.out HB466.out (by show w0.heap.size≤g4;omega));have HK470:=Ak (HK467.out);have KP472:=Ak (kept_new KP458.out HK470.out (by show w.heap.size≤g4;omega));have T471:=Ak (Nat.le_trans T468.out HK470.out.1);have F473:=Ak (StI.kept F459.out HK470.out (fun k_ h_=>(by obtain ⟨h1_,h2_⟩:=h_;omega)));have F474:=Ak (Bk.kept F460.out HK470.out (fun h_=>(by obtain ⟨h1_,h2_⟩:=h_;omega)));have F475:=Ak (BK465.out);have F476:=Ak (Bk.kept F462.out HK470.out (fun h_=>(by obtain ⟨h1_,h2_⟩:=h_;omega)));have F477:=Ak (Rd.kept F463.out HK470.out (fun h_=>(by obtain ⟨h1_,h2_⟩:=h_;omega)));clear z0_ z1_))
        try go_wp2
        refine bodyPost_ret (results_cell_row rfl _ _ g4 52 #[.int .i64 r11,.int .i64 n1_,.int .i64 n2_,.int .i64 r52,.int .i64 r69,.string r434] (0,0) _ rfl F475.out hu52 rfl (by kernel_rfl)) rfl ?_
        exact ⟨_,_,_,_,_,_,rfl,mem_small HM438.out (by decide),Rd.less F477.out (by omega),HB469.out,KP472.out⟩
       ·have d427:(r258 == 3)=false:=beq_eq_false_iff_ne.mpr c426
        (first|rw [d427]|(simp only [i64_w,i32_w];rw [d427])|skip)
        have K428:=Ak c426
        clear c426
        go_upto_if 77 with (fail)
        by_cases c478:r258=4
        ·have d479:(r258 == 4)=true:=beq_iff_eq.mpr c478
         (first|rw [d479]|(simp only [i64_w,i32_w];rw [d479])|skip)
         have K480:=Ak c478
         clear c478
         go_wp2_with (first|((with_reducible refine gate_dst (N:=80) rfl ?_);refine ev_lit (Kd.int .i64) 3 ?hg (N:=80) ?hd (xs:=([0,(-1),1001]:List Int)) (inner:=[.int .i64 0,.int .i64 (-1),.int .i64 1001]) ?hr (reps_int ([0,(-1),1001]:List Int)) (by simp) ?_;(case hd=>rfl);(case hg=>rfl);(case hr=>first|(go_simp;done)|(go_simp;rfl));intro A481 c482 W484 HL483 HB485))
         refine (num_c (m:=m + 8) (Rd.below F277.out HB485.out) (below_step HB269.out HB485.out) HL483.out.1 HL483.out.2.1 (fun ad_ e_ h_=>(by have q_:=HL483.out.2.2 ad_ e_ h_;show ad_.block ≠ g;have z0_:=Z127.out;have z1_:=T271.out;have z2_:=HB485.out.size;omega)) (by decide)).mono ?_
         rintro e W491 ⟨r486,rfl,hm487,hR488,hb492,hk489⟩
         have z0_:=Z127.out
         have z1_:=T271.out
         have z2_:=HB485.out.size
         have T494:=Ak (show g6 + 1≤W484.heap.size from (by omega))
         have HB495:=Ak (hb492)
         have HK496:=Ak (hk489)
         have KP498:=Ak (Kept.then_ (Kept.below KP272.out HB485.out) HK496.out (fun _ h_=>Or.inl h_))
         have T497:=Ak (Nat.le_trans T494.out HK496.out.1)
         have F499:=Ak (StI.kept (StI.below F273.out HB485.out) HK496.out N23.out)
         have F500:=Ak (Bk.kept (Bk.below F274.out HB485.out) HK496.out N24.out)
         have F501:=Ak (Bk.kept (Bk.below F275.out HB485.out) HK496.out N25.out)
         have F502:=Ak (Bk.kept (Bk.below F276.out HB485.out) HK496.out N268.out)
         have F503:=Ak (hR488)
         clear z0_ z1_ z2_ hb492 hk489 hR488
         have HM490:=Ak hm487
         clear hm487
         go_wp2_with (first|((with_reducible refine gate_store (t:=3) (p:=82) rfl ?_);refine ev_setcell (by rfl) rfl (g:=g6) (i:=2) (v:=.int .i64 r486) ?hr ?_;(case hr=>have hc_:W491.cell? ⟨g6,2,none⟩=some (.int .i64 n2_):=(Bk.cell F502.out 2).trans rfl;have hf_:=Bk.hot F502.out 2;first|(go_simp;done)|(go_simp;rfl));intro W504 e505;have z0_:=Z127.out;have z1_:=T497.out;have T506:=Ak (show g6 + 1≤W491.heap.size from (by omega));have HB507:=Ak (below_at HB495.out (below_setcell e505) (by show w0.heap.size≤g6;omega));have HK508:=Ak (kept_set e505);have KP510:=Ak (kept_new KP498.out HK508.out (by show w.heap.size≤g6;omega));have T509:=Ak (Nat.le_trans T506.out HK508.out.1);have F511:=Ak (StI.kept F499.out HK508.out (fun k_ h_=>(by obtain ⟨h1_,h2_⟩:=h_;omega)));have F512:=Ak (Bk.kept F500.out HK508.out (fun h_=>(by obtain ⟨h1_,h2_⟩:=h_;omega)));have F513:=Ak (Bk.kept F501.out HK508.out (fun h_=>(by obtain ⟨h1_,h2_⟩:=h_;omega)));have F514:=Ak (Bk.put F502.out e505 rfl);have F515:=Ak (Rd.kept F503.out HK508.out (fun h_=>(by obtain ⟨h1_,h2_⟩:=h_;omega)));clear z0_ z1_ e505)|((with_reducible refine gate_dst (N:=89) rfl ?_);refine ev_load rfl (N:=89) rfl rfl (g:=g6) rfl (cs:=#[.int .i64 r11,.int .i64 n1_,.int .i64 r486,.int .i64 r52,.int .i64 r69,.string r91]) F514.out hu52 rfl (by kernel_rfl) ?_)|((with_reducible refine gate_store (t:=52) (p:=4) rfl ?_);refine ev_put (by rfl) rfl rfl (g:=g4) rfl (cs:=#[.int .i64 r11,.int .i64 n1_,.int .i64 r486,.int .i64 r52,.int .i64 r69,.string r91]) rfl F513.out (by kernel_rfl) rfl rfl ?_;intro W516 BK517 HB518 HK519;have z0_:=Z127.out;have z1_:=T509.out;have T520:=Ak (show g6 + 1≤W504.heap.size from (by omega));have HB521:=Ak (below_at HB507.out HB518.out (by show w0.heap.size≤g4;omega));have HK522:=Ak (HK519.out);have KP524:=Ak (kept_new KP510.out HK522.out (by show w.heap.size≤g4;omega));have T523:=Ak (Nat.le_trans T520.out HK522.out.1);have F525:=Ak (StI.kept F511.out HK522.out (fun k_ h_=>(by obtain ⟨h1_,h2_⟩:=h_;omega)));have F526:=Ak (Bk.kept F512.out HK522.out (fun h_=>(by obtain ⟨h1_,h2_⟩:=h_;omega)));have F527:=Ak (BK517.out);have F528:=Ak (Bk.kept F514.out HK522.out (fun h_=>(by obtain ⟨h1_,h2_⟩:=h_;omega)));have F529:=Ak (Rd.kept F515.out HK522.out (fun h_=>(by obtain ⟨h1_,h2_⟩:=h_;omega)));clear z0_ z1_))
         try go_wp2
         refine bodyPost_ret (results_cell_row rfl _ _ g4 52 #[.int .i64 r11,.int .i64 n1_,.int .i64 r486,.int .i64 r52,.int .i64 r69,.string r91] (0,0) _ rfl F527.out hu52 rfl (by kernel_rfl)) rfl ?_
         exact ⟨_,_,_,_,_,_,rfl,mem_small HM95.out (by decide),Rd.less F529.out (by omega),HB521.out,KP524.out⟩
        ·have d479:(r258 == 4)=false:=beq_eq_false_iff_ne.mpr c478
         (first|rw [d479]|(simp only [i64_w,i32_w];rw [d479])|skip)
         have K480:=Ak c478
         clear c478
         go_upto_if 83 with (fail)
         by_cases c530:r258=5
         ·have d531:(r258 == 5)=true:=beq_iff_eq.mpr c530
          (first|rw [d531]|(simp only [i64_w,i32_w];rw [d531])|skip)
          have K532:=Ak c530
          clear c530
          go_wp2_with (first|((with_reducible refine gate_dst (N:=86) rfl ?_);refine ev_lit (Kd.int .i64) 3 ?hg (N:=86) ?hd (xs:=([(-1),101]:List Int)) (inner:=[.int .i64 (-1),.int .i64 101]) ?hr (reps_int ([(-1),101]:List Int)) (by simp) ?_;(case hd=>rfl);(case hg=>rfl);(case hr=>first|(go_simp;done)|(go_simp;rfl));intro A533 c534 W536 HL535 HB537))
          refine (num_c (m:=m + 8) (Rd.below F277.out HB537.out) (below_step HB269.out HB537.out) HL535.out.1 HL535.out.2.1 (fun ad_ e_ h_=>(by have q_:=HL535.out.2.2 ad_ e_ h_;show ad_.block ≠ g;have z0_:=Z127.out;have z1_:=T271.out;have z2_:=HB537.out.size;omega)) (by decide)).mono ?_
          rintro e W543 ⟨r538,rfl,hm539,hR540,hb544,hk541⟩
          have z0_:=Z127.out
          have z1_:=T271.out
          have z2_:=HB537.out.size
          have T546:=Ak (show g6 + 1≤W536.heap.size from (by omega))
          have HB547:=Ak (hb544)
          have HK548:=Ak (hk541)
          have KP550:=Ak (Kept.then_ (Kept.below KP272.out HB537.out) HK548.out (fun _ h_=>Or.inl h_))
          have T549:=Ak (Nat.le_trans T546.out HK548.out.1)
          have F551:=Ak (StI.kept (StI.below F273.out HB537.out) HK548.out N23.out)
          have F552:=Ak (Bk.kept (Bk.below F274.out HB537.out) HK548.out N24.out)
          have F553:=Ak (Bk.kept (Bk.below F275.out HB537.out) HK548.out N25.out)
          have F554:=Ak (Bk.kept (Bk.below F276.out HB537.out) HK548.out N268.out)
          have F555:=Ak (hR540)
          clear z0_ z1_ z2_ hb544 hk541 hR540
          have HM542:=Ak hm539
          clear hm539
          go_wp2_with (first|((with_reducible refine gate_store (t:=3) (p:=88) rfl ?_);refine ev_setcell (by rfl) rfl (g:=g6) (i:=1) (v:=.int .i64 r538) ?hr ?_;(case hr=>have hc_:W543.cell? ⟨g6,1,none⟩=some (.int .i64 n1_):=(Bk.cell F554.out 1).trans rfl;have hf_:=Bk.hot F554.out 1;first|(go_simp;done)|(go_simp;rfl));intro W556 e557;have z0_:=Z127.out;have z1_:=T549.out;have T558:=Ak (show g6 + 1≤W543.heap.size from (by omega));have HB559:=Ak (below_at HB547.out (below_setcell e557) (by show w0.heap.size≤g6;omega));have HK560:=Ak (kept_set e557);have KP562:=Ak (kept_new KP550.out HK560.out (by show w.heap.size≤g6;omega));have T561:=Ak (Nat.le_trans T558.out HK560.out.1);have F563:=Ak (StI.kept F551.out HK560.out (fun k_ h_=>(by obtain ⟨h1_,h2_⟩:=h_;omega)));have F564:=Ak (Bk.kept F552.out HK560.out (fun h_=>(by obtain ⟨h1_,h2_⟩:=h_;omega)));have F565:=Ak (Bk.kept F553.out HK560.out (fun h_=>(by obtain ⟨h1_,h2_⟩:=h_;omega)));have F566:=Ak (Bk.put F554.out e557 rfl);have F567:=Ak (Rd.kept F555.out HK560.out (fun h_=>(by obtain ⟨h1_,h2_⟩:=h_;omega)));clear z0_ z1_ e557)|((with_reducible refine gate_dst (N:=89) rfl ?_);refine ev_load rfl (N:=89) rfl rfl (g:=g6) rfl (cs:=#[.int .i64 r11,.int .i64 r538,.int .i64 n2_,.int .i64 r52,.int .i64 r69,.string r91]) F566.out hu52 rfl (by kernel_rfl) ?_)|((with_reducible refine gate_store (t:=52) (p:=4) rfl ?_);refine ev_put (by rfl) rfl rfl (g:=g4) rfl (cs:=#[.int .i64 r11,.int .i64 r538,.int .i64 n2_,.int .i64 r52,.int .i64 r69,.string r91]) rfl F565.out (by kernel_rfl) rfl rfl ?_;intro W568 BK569 HB570 HK571;have z0_:=Z127.out;have z1_:=T561.out;have T572:=Ak (show g6 + 1≤W556.heap.size from (by omega));have HB573:=Ak (below_at HB559.out HB570.out (by show w0.heap.size≤g4;omega));have HK574:=Ak (HK571.out);have KP576:=Ak (kept_new KP562.out HK574.out (by show w.heap.size≤g4;omega));have T575:=Ak (Nat.le_trans T572.out HK574.out.1);have F577:=Ak (StI.kept F563.out HK574.out (fun k_ h_=>(by obtain ⟨h1_,h2_⟩:=h_;omega)));have F578:=Ak (Bk.kept F564.out HK574.out (fun h_=>(by obtain ⟨h1_,h2_⟩:=h_;omega)));have F579:=Ak (BK569.out);have F580:=Ak (Bk.kept F566.out HK574.out (fun h_=>(by obtain ⟨h1_,h2_⟩:=h_;omega)));have F581:=Ak (Rd.kept F567.out HK574.out (fun h_=>(by obtain ⟨h1_,h2_⟩:=h_;omega)));clear z0_ z1_))
          try go_wp2
          refine bodyPost_ret (results_cell_row rfl _ _ g4 52 #[.int .i64 r11,.int .i64 r538,.int .i64 n2_,.int .i64 r52,.int .i64 r69,.string r91] (0,0) _ rfl F579.out hu52 rfl (by kernel_rfl)) rfl ?_
          exact ⟨_,_,_,_,_,_,rfl,mem_small HM95.out (by decide),Rd.less F581.out (by omega),HB573.out,KP576.out⟩
         ·have d531:(r258 == 5)=false:=beq_eq_false_iff_ne.mpr c530
          (first|rw [d531]|(simp only [i64_w,i32_w];rw [d531])|skip)
          have K532:=Ak c530
          clear c530
          go_wp2_with (first|((with_reducible refine gate_dst (N:=89) rfl ?_);refine ev_load rfl (N:=89) rfl rfl (g:=g6) rfl (cs:=#[.int .i64 r11,.int .i64 n1_,.int .i64 n2_,.int .i64 r52,.int .i64 r69,.string r91]) F276.out hu52 rfl (by kernel_rfl) ?_)|((with_reducible refine gate_store (t:=52) (p:=4) rfl ?_);refine ev_put (by rfl) rfl rfl (g:=g4) rfl (cs:=#[.int .i64 r11,.int .i64 n1_,.int .i64 n2_,.int .i64 r52,.int .i64 r69,.string r91]) rfl F275.out (by kernel_rfl) rfl rfl ?_;intro W582 BK583 HB584 HK585;have z0_:=Z127.out;have z1_:=T271.out;have T586:=Ak (show g6 + 1≤W264.heap.size from (by omega));have HB587:=Ak (below_at HB269.out HB584.out (by show w0.heap.size≤g4;omega));have HK588:=Ak (HK585.out);have KP590:=Ak (kept_new KP272.out HK588.out (by show w.heap.size≤g4;omega));have T589:=Ak (Nat.le_trans T586.out HK588.out.1);have F591:=Ak (StI.kept F273.out HK588.out (fun k_ h_=>(by obtain ⟨h1_,h2_⟩:=h_;omega)));have F592:=Ak (Bk.kept F274.out HK588.out (fun h_=>(by obtain ⟨h1_,h2_⟩:=h_;omega)));have F593:=Ak (BK583.out);have F594:=Ak (Bk.kept F276.out HK588.out (fun h_=>(by obtain ⟨h1_,h2_⟩:=h_;omega)));have F595:=Ak (Rd.kept F277.out HK588.out (fun h_=>(by obtain ⟨h1_,h2_⟩:=h_;omega)));clear z0_ z1_))
          try go_wp2
          refine bodyPost_ret (results_cell_row rfl _ _ g4 52 #[.int .i64 r11,.int .i64 n1_,.int .i64 n2_,.int .i64 r52,.int .i64 r69,.string r91] (0,0) _ rfl F593.out hu52 rfl (by kernel_rfl)) rfl ?_
          exact ⟨_,_,_,_,_,_,rfl,mem_small HM95.out (by decide),Rd.less F595.out (by omega),HB587.out,KP590.out⟩
end Go.Proofs.Ytmekkapacbdbeaa.P
namespace Go.Proofs.Ytmekkapacbdbeaa.P
open Go.RowKit Go.Proofs.YtmekkapacbdbeaaW.PrintWords
section
variable {w w1:World} {lo hi:Nat} {v:Value} {s:St}
theorem StR.sure_at {A:Option Addr} {n c:Nat} {u0 u2 u3 u4:Value} (h:StR w lo hi (.agg #[u0,.slice A n c,u2,u3,u4]) s) {i:Int} (h0:0≤i) (h1:i<s.sure.length) :
  ∃ g,A=some ⟨g,0,none⟩∧lo≤g∧g<hi∧w.cell? ⟨g,i.toNat,none⟩=some (.string (rdOf ByteArray.empty s.sure i))∧w.frozen? ⟨g,i.toNat,none⟩=false∧∀ x,StR (w.setCell ⟨g,i.toNat,none⟩ (.string x)) lo hi (.agg #[u0,.slice A n c,u2,u3,u4]) { s with sure:=s.sure.set i.toNat x }:=by
 obtain ⟨v0,v1,v2,v3,v4,hv,r0,r1,r2,r3,r4⟩:=h
 injection hv with hv
 injection hv with hv
 injection hv with e0 hv
 injection hv with e1 hv
 injection hv with e2 hv
 injection hv with e3 hv
 injection hv with e4 hv
 subst e0 e1 e2 e3 e4
 obtain ⟨g,cap,he,hlo,hlt,cells,hg⟩:=Kd.R_form r1 (by omega)
 injection he with e1 e2 e3
 subst e1 e2 e3
 obtain ⟨hc,hf⟩:=Kd.R_cell ByteArray.empty r1 i h0 h1
 refine ⟨g,rfl,hlo,(r1.1 g rfl).1,hc,hf,fun x=>⟨_,_,_,_,_,rfl,?_,?_,?_,?_,?_⟩⟩
 ·exact Kd.R_mono (Kd.R_far (p:=⟨g,i.toNat,none⟩) (Kd.R_mono r0 (fun k hk=>(⟨hk,fun e_=>hk.2 (by rw [e_];rfl)⟩:_∧k ≠ g))) (fun _ hk=>hk.2) _) (fun _ hk=>hk.1)
 ·exact (Kd.R_put r1 i x).1
 ·exact Kd.R_mono (Kd.R_far (p:=⟨g,i.toNat,none⟩) (Kd.R_types r2 hg (by decide)) (fun _ hk=>hk.2) _) (fun _ hk=>hk.1)
 ·exact Kd.R_mono (Kd.R_far (p:=⟨g,i.toNat,none⟩) (Kd.R_types r3 hg (by decide)) (fun _ hk=>hk.2) _) (fun _ hk=>hk.1)
 ·exact Kd.R_mono (Kd.R_far (p:=⟨g,i.toNat,none⟩) (Kd.R_types r4 hg (by decide)) (fun _ hk=>hk.2) _) (fun _ hk=>hk.1)
theorem StR.sure_form {A:Option Addr} {n c:Nat} {u0 u2 u3 u4:Value} (h:StR w lo hi (.agg #[u0,.slice A n c,u2,u3,u4]) s) {i:Int} (h0:0≤i) (h1:i<s.sure.length):∃ g,A=some ⟨g,0,none⟩:=by
 obtain ⟨g,e,_⟩:=h.sure_at h0 h1
 exact ⟨g,e⟩
theorem StR.sure_cell {g n c:Nat} {u0 u2 u3 u4:Value} (h:StR w lo hi (.agg #[u0,.slice (some ⟨g,0,none⟩) n c,u2,u3,u4]) s) {i:Int} (h0:0≤i) (h1:i<s.sure.length) :
  lo≤g∧g<hi∧w.cell? ⟨g,i.toNat,none⟩=some (.string (rdOf ByteArray.empty s.sure i))∧w.frozen? ⟨g,i.toNat,none⟩=false∧∀ x w1,w1=w.setCell ⟨g,i.toNat,none⟩ (.string x)→StR w1 lo hi (.agg #[u0,.slice (some ⟨g,0,none⟩) n c,u2,u3,u4]) { s with sure:=s.sure.set i.toNat x }:=by
 obtain ⟨g',e,r0,r1,r2,r3,r4⟩:=h.sure_at h0 h1
 cases e
 exact ⟨r0,r1,r2,r3,fun x w1 e=>e ▸ r4 x⟩
theorem StR.slast_at {A:Option Addr} {n c:Nat} {u0 u1 u2 u4:Value} (h:StR w lo hi (.agg #[u0,u1,u2,.slice A n c,u4]) s) {i:Int} (h0:0≤i) (h1:i<s.slast.length) :
  ∃ g,A=some ⟨g,0,none⟩∧lo≤g∧g<hi∧w.cell? ⟨g,i.toNat,none⟩=some (.int .i64 (rd s.slast i))∧w.frozen? ⟨g,i.toNat,none⟩=false∧∀ x,StR (w.setCell ⟨g,i.toNat,none⟩ (.int .i64 x)) lo hi (.agg #[u0,u1,u2,.slice A n c,u4]) { s with slast:=s.slast.set i.toNat x }:=by
 obtain ⟨v0,v1,v2,v3,v4,hv,r0,r1,r2,r3,r4⟩:=h
 injection hv with hv
 injection hv with hv
 injection hv with e0 hv
 injection hv with e1 hv
 injection hv with e2 hv
 injection hv with e3 hv
 injection hv with e4 hv
 subst e0 e1 e2 e3 e4
 obtain ⟨g,cap,he,hlo,hlt,cells,hg⟩:=Kd.R_form r3 (by omega)
 injection he with e1 e2 e3
 subst e1 e2 e3
 obtain ⟨hc,hf⟩:=Kd.R_cell 0 r3 i h0 h1
 refine ⟨g,rfl,hlo,(r3.1 g rfl).1,hc,hf,fun x=>⟨_,_,_,_,_,rfl,?_,?_,?_,?_,?_⟩⟩
 ·exact Kd.R_mono (Kd.R_far (p:=⟨g,i.toNat,none⟩) (Kd.R_types r0 hg (by decide)) (fun _ hk=>hk.2) _) (fun _ hk=>hk.1)
 ·exact Kd.R_mono (Kd.R_far (p:=⟨g,i.toNat,none⟩) (Kd.R_types r1 hg (by decide)) (fun _ hk=>hk.2) _) (fun _ hk=>hk.1)
 ·exact Kd.R_mono (Kd.R_far (p:=⟨g,i.toNat,none⟩) (Kd.R_mono r2 (fun k hk=>(⟨hk,fun e_=>hk.2.1 (by rw [e_];rfl)⟩:_∧k ≠ g))) (fun _ hk=>hk.2) _) (fun _ hk=>hk.1)
 ·exact (Kd.R_put r3 i x).1
 ·exact Kd.R_mono (Kd.R_far (p:=⟨g,i.toNat,none⟩) (Kd.R_mono r4 (fun k hk=>(⟨hk,fun e_=>hk.2.2 (by rw [e_];rfl)⟩:_∧k ≠ g))) (fun _ hk=>hk.2) _) (fun _ hk=>hk.1)
theorem StR.slast_form {A:Option Addr} {n c:Nat} {u0 u1 u2 u4:Value} (h:StR w lo hi (.agg #[u0,u1,u2,.slice A n c,u4]) s) {i:Int} (h0:0≤i) (h1:i<s.slast.length):∃ g,A=some ⟨g,0,none⟩:=by
 obtain ⟨g,e,_⟩:=h.slast_at h0 h1
 exact ⟨g,e⟩
theorem StR.slast_cell {g n c:Nat} {u0 u1 u2 u4:Value} (h:StR w lo hi (.agg #[u0,u1,u2,.slice (some ⟨g,0,none⟩) n c,u4]) s) {i:Int} (h0:0≤i) (h1:i<s.slast.length) :
  lo≤g∧g<hi∧w.cell? ⟨g,i.toNat,none⟩=some (.int .i64 (rd s.slast i))∧w.frozen? ⟨g,i.toNat,none⟩=false∧∀ x w1,w1=w.setCell ⟨g,i.toNat,none⟩ (.int .i64 x)→StR w1 lo hi (.agg #[u0,u1,u2,.slice (some ⟨g,0,none⟩) n c,u4]) { s with slast:=s.slast.set i.toNat x }:=by
 obtain ⟨g',e,r0,r1,r2,r3,r4⟩:=h.slast_at h0 h1
 cases e
 exact ⟨r0,r1,r2,r3,fun x w1 e=>e ▸ r4 x⟩
theorem StR.nil_floors {u0 u1 u2 u3 u4:Value} (h:StR w lo hi (.agg #[u0,u1,u2,u3,u4]) s):StR w lo hi (.agg #[u0,u1,u2,u3,.slice none 0 0]) { s with floors:=[] }:=by
 obtain ⟨v0,v1,v2,v3,v4,hv,r0,r1,r2,r3,r4⟩:=h
 injection hv with hv
 injection hv with hv
 injection hv with e0 hv
 injection hv with e1 hv
 injection hv with e2 hv
 injection hv with e3 hv
 injection hv with e4 hv
 subst e0 e1 e2 e3 e4
 exact ⟨_,_,_,_,_,rfl,r0,r1,Kd.R_mono r2 (fun k hk=>⟨hk.1,hk.2.1,by simp [Value.ownBlock]⟩),Kd.R_mono r3 (fun k hk=>⟨hk.1,hk.2.1,by simp [Value.ownBlock]⟩),Kd.R_nil _ _ _ _ _⟩
end
section
variable {s:St} {i:Nat} {x:Int}
theorem small_now (h:Small s):Small { s with now:=s.now.drop 1 }:=⟨by have:=h.1;simp only [List.length_drop];omega,h.2⟩
theorem small_sure {b:ByteArray} (h:Small s):Small { s with sure:=s.sure.set i b }:=⟨h.1,by simpa using h.2.1,h.2.2⟩
theorem small_last (h:Small s):Small { s with last:=s.last.set i x }:=⟨h.1,h.2.1,by simpa using h.2.2.1,h.2.2.2⟩
theorem small_slast (h:Small s):Small { s with slast:=s.slast.set i x }:=⟨h.1,h.2.1,h.2.2.1,by simpa using h.2.2.2.1,h.2.2.2.2⟩
theorem small_floors (h:Small s):Small { s with floors:=s.floors.set i x }:=⟨h.1,h.2.1,h.2.2.1,h.2.2.2.1,by simpa using h.2.2.2.2⟩
theorem small_nil (h:Small s):Small { s with floors:=[] }:=⟨h.1,h.2.1,h.2.2.1,h.2.2.2.1,by simp⟩
theorem sized_now (h:Sized s):Sized { s with now:=s.now.drop 1 }:=⟨fun y hy=>h.1 y (List.mem_of_mem_drop hy),h.2⟩
theorem sized_sure {b:ByteArray} (hb:b.size≤1000) (h:Sized s):Sized { s with sure:=s.sure.set i b }:=⟨h.1,fun y hy=>by
 rcases List.mem_or_eq_of_mem_set hy with hy|hy
 ·exact h.2 y hy
 ·subst hy
  omega⟩
end
end Go.Proofs.Ytmekkapacbdbeaa.P
namespace Go.Proofs.Ytmekkapacbdbeaa.P
open Go.RowKit Go.Proofs.YtmekkapacbdbeaaW.PrintWords Go.Proofs.YtmekkapacbdbeaaW.PrintLast Go.Proofs.YtmekkapacbdbeaaW.PrintMore
attribute [local go_sem] max2_int min2_int max_two min_two max_three min_three max_four min_four 
def slices_Equal_string_string.l0:Nat→List ByteArray→List ByteArray→Int→Int→Option (Bool)
 | 0,_,_,_,_=>none
 | k + 1,x0,x1,x12,x13=>if x13<x12 then (if 0≤x13 then (if x13<(x0.length:Int) then (if x13<(x1.length:Int) then (if (rdOf ByteArray.empty x0 x13).toList=(rdOf ByteArray.empty x1 x13).toList then (slices_Equal_string_string.l0 k x0 x1 x12 (wrap64 (x13 + 1))) else (some false)) else (none)) else (none)) else (none)) else (some true)
def slices_Equal_string_string.f (k:Nat) (l0:List ByteArray) (l1:List ByteArray):Option (Bool):=if (l0.length:Int)=(l1.length:Int) then (slices_Equal_string_string.l0 k l0 l1 (l0.length:Int) 0) else (some false)
theorem slices_Equal_string_string.calls (k:Nat) (A0:Option Addr) (c0:Nat) (l0:List ByteArray) (A1:Option Addr) (c1:Nat) (l1:List ByteArray) (r:Bool) (w:World) (hr0:Kd.C Kd.string w A0 l0.length l0) (hc0:l0.length≤c0) (hr1:Kd.C Kd.string w A1 l1.length l1) (hc1:l1.length≤c1) (h:slices_Equal_string_string.f k l0 l1=some r) :
  Calls Try.prog 55 #[.slice A0 l0.length c0,.slice A1 l1.length c1] w fun e w'=>e = .returned (.bool r)∧Drawn0 w w':=by
 have HR0:=Ak hr0
 have HC0:=Ak hc0
 clear hr0 hc0
 have HR1:=Ak hr1
 have HC1:=Ak hc1
 clear hr1 hc1
 have H:(if (l0.length:Int)=(l1.length:Int) then (slices_Equal_string_string.l0 k l0 l1 (l0.length:Int) 0) else (some false))=some r:=h
 clear h
 by_cases c3:(l0.length:Int)=(l1.length:Int)
 ·rw [if_pos c3] at H
  have c3b0:((l0.length:Int) == (l1.length:Int))=true:=beq_iff_eq.mpr c3
  have c3b1:((l0.length:Int) != (l1.length:Int))=false:=bne_eq_false_iff_eq.mpr c3
  have c3b2:(l0.length == l1.length)=true:=by first|simpa using c3|(simp at c3 ⊢;omega)
  clear c3
  have H':=Ak H
  clear H
  go_enter Try.func55,Try.ntmps55
  go_wp2
  repeat (go_quiet (fail);try go_wp2)
  go_loopg [13] k (fun kq v13 w'=>∃ (x13_1:Int),v13 = .int .i64 x13_1∧Aside0 (slices_Equal_string_string.l0 kq l0 l1 (l0.length:Int) x13_1=some r)∧Aside0 (kq≤k)∧Drawn0 w w')
  case atStart=>exact ⟨(0),(by first|rfl|(simp;done)|(simp [*];done)),H',⟨Nat.le_refl _⟩,by repeat (first|exact Drawn0.refl _|apply Drawn0.step)⟩
  case round =>
   clear H'
   try clear c1
   try clear p2
   try clear c3
   try clear c3b0
   try clear c3b1
   try clear c3b2
   obtain ⟨x13_1,rfl,HA,HK1,⟨m1,rfl⟩⟩:=hrel
   cases gk with
   | zero=>exact absurd HA.out (by simp [slices_Equal_string_string.l0])
   | succ k1 =>
    have H:=HA.out
    clear HA
    simp only [slices_Equal_string_string.l0] at H
    by_cases c4:x13_1<(l0.length:Int)
    ·rw [if_pos c4] at H
     have c4b0:decide (x13_1<(l0.length:Int))=true:=decide_eq_true c4
     clear c4
     by_cases c5:0≤x13_1
     ·rw [if_pos c5] at H
      have c5b0:decide (0≤x13_1)=true:=decide_eq_true c5
      clear c5
      by_cases c6:x13_1<(l0.length:Int)
      ·rw [if_pos c6] at H
       have c6b0:decide (x13_1<(l0.length:Int))=true:=decide_eq_true c6
       clear c6
       by_cases c7:x13_1<(l1.length:Int)
       ·rw [if_pos c7] at H
        have c7b0:decide (x13_1<(l1.length:Int))=true:=decide_eq_true c7
        clear c7
        by_cases c8:(rdOf ByteArray.empty l0 x13_1).toList=(rdOf ByteArray.empty l1 x13_1).toList
        ·rw [if_pos c8] at H
         have c8b0:((rdOf ByteArray.empty l0 x13_1).toList == (rdOf ByteArray.empty l1 x13_1).toList)=true:=beq_iff_eq.mpr c8
         have c8b1:((rdOf ByteArray.empty l0 x13_1).toList != (rdOf ByteArray.empty l1 x13_1).toList)=false:=bne_eq_false_iff_eq.mpr c8
         clear c8
         have H':=Ak H
         clear H
         have p794:0≤(x13_1:Int):=of_decide_eq_true (by first|(with_reducible assumption)|assumption)
         have q794:x13_1<(l0.length:Int):=of_decide_eq_true (by first|(with_reducible assumption)|assumption)
         obtain ⟨ad794,e794,hx794_0⟩:=Kd.at_string HR0.out x13_1 p794 q794
         cases e794
         replace p794:=eq_true p794
         replace q794:=eq_true q794
         have p795:0≤(x13_1:Int):=of_decide_eq_true (by first|(with_reducible assumption)|assumption)
         have q795:x13_1<(l1.length:Int):=of_decide_eq_true (by first|(with_reducible assumption)|assumption)
         obtain ⟨ad795,e795,hx795_0⟩:=Kd.at_string HR1.out x13_1 p795 q795
         cases e795
         replace p795:=eq_true p795
         replace q795:=eq_true q795
         go_wp2
         repeat (go_quiet (fail);try go_wp2)
         go_roundg k1
         case measure=>have:=HK1.out;omega
         case rel=>exact ⟨(wrap64 (x13_1 + 1)),(by first|rfl|(simp;done)|(simp [*];done)),H',⟨by have:=HK1.out;omega⟩,by repeat (first|exact Drawn0.refl _|apply Drawn0.step)⟩
        ·rw [if_neg c8] at H
         have c8b0:((rdOf ByteArray.empty l0 x13_1).toList == (rdOf ByteArray.empty l1 x13_1).toList)=false:=beq_eq_false_iff_ne.mpr c8
         have c8b1:((rdOf ByteArray.empty l0 x13_1).toList != (rdOf ByteArray.empty l1 x13_1).toList)=true:=bne_iff_ne.mpr c8
         obtain rfl:=Option.some.inj H
         have p794:0≤(x13_1:Int):=of_decide_eq_true (by first|(with_reducible assumption)|assumption)
         have q794:x13_1<(l0.length:Int):=of_decide_eq_true (by first|(with_reducible assumption)|assumption)
         obtain ⟨ad794,e794,hx794_0⟩:=Kd.at_string HR0.out x13_1 p794 q794
         cases e794
         replace p794:=eq_true p794
         replace q794:=eq_true q794
         have p795:0≤(x13_1:Int):=of_decide_eq_true (by first|(with_reducible assumption)|assumption)
         have q795:x13_1<(l1.length:Int):=of_decide_eq_true (by first|(with_reducible assumption)|assumption)
         obtain ⟨ad795,e795,hx795_0⟩:=Kd.at_string HR1.out x13_1 p795 q795
         cases e795
         replace p795:=eq_true p795
         replace q795:=eq_true q795
         go_wp2
         repeat (go_quiet (fail);try go_wp2)
         go_ret
         exact ⟨by first|rfl|(simp;done)|(simp [*];done),by repeat (first|exact Drawn0.refl _|apply Drawn0.step)⟩
       ·rw [if_neg c7] at H
        exact absurd H (by simp)
      ·rw [if_neg c6] at H
       exact absurd H (by simp)
     ·rw [if_neg c5] at H
      exact absurd H (by simp)
    ·rw [if_neg c4] at H
     have c4b0:decide (x13_1<(l0.length:Int))=false:=decide_eq_false c4
     clear c4
     obtain rfl:=Option.some.inj H
     go_wp2
     repeat (go_quiet (fail);try go_wp2)
     go_ret
     exact ⟨by first|rfl|(simp;done)|(simp [*];done),by repeat (first|exact Drawn0.refl _|apply Drawn0.step)⟩
 ·rw [if_neg c3] at H
  have c3b0:((l0.length:Int) == (l1.length:Int))=false:=beq_eq_false_iff_ne.mpr c3
  have c3b1:((l0.length:Int) != (l1.length:Int))=true:=bne_iff_ne.mpr c3
  have c3b2:(l0.length == l1.length)=false:=by first|simpa using c3|(simp at c3 ⊢;omega)
  obtain rfl:=Option.some.inj H
  go_enter Try.func55,Try.ntmps55
  go_wp2
  repeat (go_quiet (fail);try go_wp2)
  go_ret
  exact ⟨by first|rfl|(simp;done)|(simp [*];done),by repeat (first|exact Drawn0.refl _|apply Drawn0.step)⟩
def slices_Equal_int_int.l0:Nat→List Int→List Int→Int→Int→Option (Bool)
 | 0,_,_,_,_=>none
 | k + 1,x0,x1,x12,x13=>if x13<x12 then (if 0≤x13 then (if x13<(x0.length:Int) then (if x13<(x1.length:Int) then (if (rd x0 x13)=(rd x1 x13) then (slices_Equal_int_int.l0 k x0 x1 x12 (wrap64 (x13 + 1))) else (some false)) else (none)) else (none)) else (none)) else (some true)
def slices_Equal_int_int.f (k:Nat) (l0:List Int) (l1:List Int):Option (Bool):=if (l0.length:Int)=(l1.length:Int) then (slices_Equal_int_int.l0 k l0 l1 (l0.length:Int) 0) else (some false)
theorem slices_Equal_int_int.calls (k:Nat) (A0:Option Addr) (c0:Nat) (l0:List Int) (A1:Option Addr) (c1:Nat) (l1:List Int) (r:Bool) (w:World) (hr0:Kd.C (Kd.int .i64) w A0 l0.length l0) (hc0:l0.length≤c0) (hr1:Kd.C (Kd.int .i64) w A1 l1.length l1) (hc1:l1.length≤c1) (h:slices_Equal_int_int.f k l0 l1=some r) :
  Calls Try.prog 56 #[.slice A0 l0.length c0,.slice A1 l1.length c1] w fun e w'=>e = .returned (.bool r)∧Drawn0 w w':=by
 have HR0:=Ak hr0
 have HC0:=Ak hc0
 clear hr0 hc0
 have HR1:=Ak hr1
 have HC1:=Ak hc1
 clear hr1 hc1
 have H:(if (l0.length:Int)=(l1.length:Int) then (slices_Equal_int_int.l0 k l0 l1 (l0.length:Int) 0) else (some false))=some r:=h
 clear h
 by_cases c3:(l0.length:Int)=(l1.length:Int)
 ·rw [if_pos c3] at H
  have c3b0:((l0.length:Int) == (l1.length:Int))=true:=beq_iff_eq.mpr c3
  have c3b1:((l0.length:Int) != (l1.length:Int))=false:=bne_eq_false_iff_eq.mpr c3
  have c3b2:(l0.length == l1.length)=true:=by first|simpa using c3|(simp at c3 ⊢;omega)
  clear c3
  have H':=Ak H
  clear H
  go_enter Try.func56,Try.ntmps56
  go_wp2
  repeat (go_quiet (fail);try go_wp2)
  go_loopg [13] k (fun kq v13 w'=>∃ (x13_1:Int),v13 = .int .i64 x13_1∧Aside0 (slices_Equal_int_int.l0 kq l0 l1 (l0.length:Int) x13_1=some r)∧Aside0 (kq≤k)∧Drawn0 w w')
  case atStart=>exact ⟨(0),(by first|rfl|(simp;done)|(simp [*];done)),H',⟨Nat.le_refl _⟩,by repeat (first|exact Drawn0.refl _|apply Drawn0.step)⟩
  case round =>
   clear H'
   try clear c1
   try clear p2
   try clear c3
   try clear c3b0
   try clear c3b1
   try clear c3b2
   obtain ⟨x13_1,rfl,HA,HK1,⟨m1,rfl⟩⟩:=hrel
   cases gk with
   | zero=>exact absurd HA.out (by simp [slices_Equal_int_int.l0])
   | succ k1 =>
    have H:=HA.out
    clear HA
    simp only [slices_Equal_int_int.l0] at H
    by_cases c4:x13_1<(l0.length:Int)
    ·rw [if_pos c4] at H
     have c4b0:decide (x13_1<(l0.length:Int))=true:=decide_eq_true c4
     clear c4
     by_cases c5:0≤x13_1
     ·rw [if_pos c5] at H
      have c5b0:decide (0≤x13_1)=true:=decide_eq_true c5
      clear c5
      by_cases c6:x13_1<(l0.length:Int)
      ·rw [if_pos c6] at H
       have c6b0:decide (x13_1<(l0.length:Int))=true:=decide_eq_true c6
       clear c6
       by_cases c7:x13_1<(l1.length:Int)
       ·rw [if_pos c7] at H
        have c7b0:decide (x13_1<(l1.length:Int))=true:=decide_eq_true c7
        clear c7
        by_cases c8:(rd l0 x13_1)=(rd l1 x13_1)
        ·rw [if_pos c8] at H
         have c8b0:((rd l0 x13_1) == (rd l1 x13_1))=true:=beq_iff_eq.mpr c8
         have c8b1:((rd l0 x13_1) != (rd l1 x13_1))=false:=bne_eq_false_iff_eq.mpr c8
         clear c8
         have H':=Ak H
         clear H
         have p796:0≤(x13_1:Int):=of_decide_eq_true (by first|(with_reducible assumption)|assumption)
         have q796:x13_1<(l0.length:Int):=of_decide_eq_true (by first|(with_reducible assumption)|assumption)
         obtain ⟨ad796,e796,hx796_0⟩:=Kd.at_int HR0.out x13_1 p796 q796
         cases e796
         replace p796:=eq_true p796
         replace q796:=eq_true q796
         have p797:0≤(x13_1:Int):=of_decide_eq_true (by first|(with_reducible assumption)|assumption)
         have q797:x13_1<(l1.length:Int):=of_decide_eq_true (by first|(with_reducible assumption)|assumption)
         obtain ⟨ad797,e797,hx797_0⟩:=Kd.at_int HR1.out x13_1 p797 q797
         cases e797
         replace p797:=eq_true p797
         replace q797:=eq_true q797
         go_wp2
         repeat (go_quiet (fail);try go_wp2)
         go_roundg k1
         case measure=>have:=HK1.out;omega
         case rel=>exact ⟨(wrap64 (x13_1 + 1)),(by first|rfl|(simp;done)|(simp [*];done)),H',⟨by have:=HK1.out;omega⟩,by repeat (first|exact Drawn0.refl _|apply Drawn0.step)⟩
        ·rw [if_neg c8] at H
         have c8b0:((rd l0 x13_1) == (rd l1 x13_1))=false:=beq_eq_false_iff_ne.mpr c8
         have c8b1:((rd l0 x13_1) != (rd l1 x13_1))=true:=bne_iff_ne.mpr c8
         obtain rfl:=Option.some.inj H
         have p796:0≤(x13_1:Int):=of_decide_eq_true (by first|(with_reducible assumption)|assumption)
         have q796:x13_1<(l0.length:Int):=of_decide_eq_true (by first|(with_reducible assumption)|assumption)
         obtain ⟨ad796,e796,hx796_0⟩:=Kd.at_int HR0.out x13_1 p796 q796
         cases e796
         replace p796:=eq_true p796
         replace q796:=eq_true q796
         have p797:0≤(x13_1:Int):=of_decide_eq_true (by first|(with_reducible assumption)|assumption)
         have q797:x13_1<(l1.length:Int):=of_decide_eq_true (by first|(with_reducible assumption)|assumption)
         obtain ⟨ad797,e797,hx797_0⟩:=Kd.at_int HR1.out x13_1 p797 q797
         cases e797
         replace p797:=eq_true p797
         replace q797:=eq_true q797
         go_wp2
         repeat (go_quiet (fail);try go_wp2)
         go_ret
         exact ⟨by first|rfl|(simp;done)|(simp [*];done),by repeat (first|exact Drawn0.refl _|apply Drawn0.step)⟩
       ·rw [if_neg c7] at H
        exact absurd H (by simp)
      ·rw [if_neg c6] at H
       exact absurd H (by simp)
     ·rw [if_neg c5] at H
      exact absurd H (by simp)
    ·rw [if_neg c4] at H
     have c4b0:decide (x13_1<(l0.length:Int))=false:=decide_eq_false c4
     clear c4
     obtain rfl:=Option.some.inj H
     go_wp2
     repeat (go_quiet (fail);try go_wp2)
     go_ret
     exact ⟨by first|rfl|(simp;done)|(simp [*];done),by repeat (first|exact Drawn0.refl _|apply Drawn0.step)⟩
 ·rw [if_neg c3] at H
  have c3b0:((l0.length:Int) == (l1.length:Int))=false:=beq_eq_false_iff_ne.mpr c3
  have c3b1:((l0.length:Int) != (l1.length:Int))=true:=bne_iff_ne.mpr c3
  have c3b2:(l0.length == l1.length)=false:=by first|simpa using c3|(simp at c3 ⊢;omega)
  obtain rfl:=Option.some.inj H
  go_enter Try.func56,Try.ntmps56
  go_wp2
  repeat (go_quiet (fail);try go_wp2)
  go_ret
  exact ⟨by first|rfl|(simp;done)|(simp [*];done),by repeat (first|exact Drawn0.refl _|apply Drawn0.step)⟩


end Go.Proofs.Ytmekkapacbdbeaa.P
namespace Go.Proofs.Ytmekkapacbdbeaa.P
open Go.RowKit Go.Proofs.YtmekkapacbdbeaaW.PrintWords
theorem slices_Equal_string_string_ev {a b:List ByteArray} (ha:a.length≤9223372036854775807):Ev (fun k=>slices_Equal_string_string.f k a b) (decide (a=b)):=by
 by_cases hl:(a.length:Int)=(b.length:Int)
 ·have hl':a.length=b.length:=by omega
  refine Ev.congr (f:=fun k=>slices_Equal_string_string.l0 k a b (a.length:Int) 0) (fun k=>by unfold slices_Equal_string_string.f;rw [if_pos hl]) ?_
  have h:=loop_all (n:=a.length) (G:=fun k i=>slices_Equal_string_string.l0 k a b (a.length:Int) (i:Int)) (E:=fun j=>decide (a[j]?=b[j]?)) (z:=true) (fun k i hi=>by
   show slices_Equal_string_string.l0 (k + 1) a b (a.length:Int) (i:Int)=_
   rw [slices_Equal_string_string.l0,if_pos (by omega),if_pos (by omega),if_pos (by omega),if_pos (by omega),rdOf_nat hi,rdOf_nat (l:=b) (by omega),w64s hi ha]
   simp [toList_inj,List.getElem?_eq_getElem hi,List.getElem?_eq_getElem (l:=b) (i:=i) (by omega)]) (fun k=>by
   show slices_Equal_string_string.l0 (k + 1) a b (a.length:Int) (a.length:Int)=_
   rw [slices_Equal_string_string.l0,if_neg (by omega)]) a.length 0 (by omega)
  rw [all_eq hl',Bool.and_true] at h
  exact h
 ·refine Ev.congr (f:=fun _=>some false) (fun k=>by unfold slices_Equal_string_string.f;rw [if_neg hl]) ?_
  rw [decide_eq_false (fun h=>hl (by rw [h]))]
  exact Ev.now _
theorem slices_Equal_int_int_ev {a b:List Int} (ha:a.length≤9223372036854775807):Ev (fun k=>slices_Equal_int_int.f k a b) (decide (a=b)):=by
 by_cases hl:(a.length:Int)=(b.length:Int)
 ·have hl':a.length=b.length:=by omega
  refine Ev.congr (f:=fun k=>slices_Equal_int_int.l0 k a b (a.length:Int) 0) (fun k=>by unfold slices_Equal_int_int.f;rw [if_pos hl]) ?_
  have h:=loop_all (n:=a.length) (G:=fun k i=>slices_Equal_int_int.l0 k a b (a.length:Int) (i:Int)) (E:=fun j=>decide (a[j]?=b[j]?)) (z:=true) (fun k i hi=>by
   show slices_Equal_int_int.l0 (k + 1) a b (a.length:Int) (i:Int)=_
   rw [slices_Equal_int_int.l0,if_pos (by omega),if_pos (by omega),if_pos (by omega),if_pos (by omega),rd_nat hi,rd_nat (l:=b) (by omega),w64s hi ha]
   simp [List.getElem?_eq_getElem hi,List.getElem?_eq_getElem (l:=b) (i:=i) (by omega)]) (fun k=>by
   show slices_Equal_int_int.l0 (k + 1) a b (a.length:Int) (a.length:Int)=_
   rw [slices_Equal_int_int.l0,if_neg (by omega)]) a.length 0 (by omega)
  rw [all_eq hl',Bool.and_true] at h
  exact h
 ·refine Ev.congr (f:=fun _=>some false) (fun k=>by unfold slices_Equal_int_int.f;rw [if_neg hl]) ?_
  rw [decide_eq_false (fun h=>hl (by rw [h]))]
  exact Ev.now _
end Go.Proofs.Ytmekkapacbdbeaa.P

namespace Go.Proofs.Ytmekkapacbdbeaa.P
open Go.RowKit Go.Proofs.YtmekkapacbdbeaaW.PrintWords Go.Proofs.YtmekkapacbdbeaaW.PrintLast Go.Proofs.YtmekkapacbdbeaaW.PrintMore
attribute [local go_sem] max2_int min2_int max_two min_two max_three min_three max_four min_four 
def spec_l2Byte.f (a0:Int):Option (Bool):=if a0=46 then (some true) else (if a0 ≥ 97 then (if a0≤122 then (some true) else (if a0 ≥ 48 then (some (decide (a0≤57))) else (some false))) else (if a0 ≥ 48 then (some (decide (a0≤57))) else (some false)))
theorem spec_l2Byte.calls (a0:Int) (r:Bool) (w:World) (h:spec_l2Byte.f a0=some r) :
  Calls Try.prog 81 #[.int .u8 a0] w fun e w'=>e = .returned (.bool r)∧Drawn0 w w':=by
 have H:(if a0=46 then (some true) else (if a0 ≥ 97 then (if a0≤122 then (some true) else (if a0 ≥ 48 then (some (decide (a0≤57))) else (some false))) else (if a0 ≥ 48 then (some (decide (a0≤57))) else (some false))))=some r:=h
 clear h
 by_cases c2:a0=46
 ·rw [if_pos c2] at H
  have c2b0:(a0 == 46)=true:=beq_iff_eq.mpr c2
  have c2b1:(a0 != 46)=false:=bne_eq_false_iff_eq.mpr c2
  clear c2
  obtain rfl:=Option.some.inj H
  go_enter Try.func81,Try.ntmps81
  go_wp2
  go_ret
  exact ⟨by first|rfl|(simp;done)|(simp [*];done),by repeat (first|exact Drawn0.refl _|apply Drawn0.step)⟩
 ·rw [if_neg c2] at H
  have c2b0:(a0 == 46)=false:=beq_eq_false_iff_ne.mpr c2
  have c2b1:(a0 != 46)=true:=bne_iff_ne.mpr c2
  by_cases c3:a0 ≥ 97
  ·rw [if_pos c3] at H
   have c3b0:decide (97≤a0)=true:=decide_eq_true c3
   clear c3
   by_cases c4:a0≤122
   ·rw [if_pos c4] at H
    have c4b0:decide (a0≤122)=true:=decide_eq_true c4
    clear c4
    obtain rfl:=Option.some.inj H
    go_enter Try.func81,Try.ntmps81
    go_wp2
    go_ret
    exact ⟨by first|rfl|(simp;done)|(simp [*];done),by repeat (first|exact Drawn0.refl _|apply Drawn0.step)⟩
   ·rw [if_neg c4] at H
    have c4b0:decide (a0≤122)=false:=decide_eq_false c4
    clear c4
    by_cases c5:a0 ≥ 48
    ·rw [if_pos c5] at H
     have c5b0:decide (48≤a0)=true:=decide_eq_true c5
     clear c5
     obtain rfl:=Option.some.inj H
     go_enter Try.func81,Try.ntmps81
     go_wp2
     go_ret
     exact ⟨by first|rfl|(simp;done)|(simp [*];done),by repeat (first|exact Drawn0.refl _|apply Drawn0.step)⟩
    ·rw [if_neg c5] at H
     have c5b0:decide (48≤a0)=false:=decide_eq_false c5
     clear c5
     obtain rfl:=Option.some.inj H
     go_enter Try.func81,Try.ntmps81
     go_wp2
     go_ret
     exact ⟨by first|rfl|(simp;done)|(simp [*];done),by repeat (first|exact Drawn0.refl _|apply Drawn0.step)⟩
  ·rw [if_neg c3] at H
   have c3b0:decide (97≤a0)=false:=decide_eq_false c3
   clear c3
   by_cases c6:a0 ≥ 48
   ·rw [if_pos c6] at H
    have c6b0:decide (48≤a0)=true:=decide_eq_true c6
    clear c6
    obtain rfl:=Option.some.inj H
    go_enter Try.func81,Try.ntmps81
    go_wp2
    go_ret
    exact ⟨by first|rfl|(simp;done)|(simp [*];done),by repeat (first|exact Drawn0.refl _|apply Drawn0.step)⟩
   ·rw [if_neg c6] at H
    have c6b0:decide (48≤a0)=false:=decide_eq_false c6
    clear c6
    obtain rfl:=Option.some.inj H
    go_enter Try.func81,Try.ntmps81
    go_wp2
    go_ret
    exact ⟨by first|rfl|(simp;done)|(simp [*];done),by repeat (first|exact Drawn0.refl _|apply Drawn0.step)⟩
def spec_TextOk.l0:Nat→ByteArray→Int→Option (Bool)
 | 0,_,_=>none
 | k + 1,x0,x3=>if x3<(x0.size:Int) then (if 0≤x3 then ((spec_l2Byte.f (bt x0 x3)).bind fun t201=>(if t201=true then (spec_TextOk.l0 k x0 (wrap64 (x3 + 1))) else (some false))) else (none)) else (some (decide ((x0.size:Int)≤48)))
def spec_TextOk.f (k:Nat) (a0:ByteArray):Option (Bool):=spec_TextOk.l0 k a0 0
theorem spec_TextOk.calls (k:Nat) (a0:ByteArray) (r:Bool) (w:World) (h:spec_TextOk.f k a0=some r) :
  Calls Try.prog 75 #[.string a0] w fun e w'=>e = .returned (.bool r)∧Drawn0 w w':=by
 have H:(spec_TextOk.l0 k a0 0)=some r:=h
 clear h
 have H':=Ak H
 clear H
 go_enter Try.func75,Try.ntmps75
 go_wp2
 go_loopg [3] k (fun kq v3 w'=>∃ (x3_1:Int),v3 = .int .i64 x3_1∧Aside0 (spec_TextOk.l0 kq a0 x3_1=some r)∧Aside0 (kq≤k)∧Drawn0 w w')
 case atStart=>exact ⟨(0),(by first|rfl|(simp;done)|(simp [*];done)),H',⟨Nat.le_refl _⟩,by repeat (first|exact Drawn0.refl _|apply Drawn0.step)⟩
 case round =>
  clear H'
  obtain ⟨x3_1,rfl,HA,HK1,⟨m1,rfl⟩⟩:=hrel
  cases gk with
  | zero=>exact absurd HA.out (by simp [spec_TextOk.l0])
  | succ k1 =>
   have H:=HA.out
   clear HA
   simp only [spec_TextOk.l0] at H
   by_cases c2:x3_1<(a0.size:Int)
   ·rw [if_pos c2] at H
    have c2b0:decide (x3_1<(a0.size:Int))=true:=decide_eq_true c2
    clear c2
    by_cases c3:0≤x3_1
    ·rw [if_pos c3] at H
     have c3b0:decide (0≤x3_1)=true:=decide_eq_true c3
     clear c3
     replace H:=Option.bind_eq_some_iff.mp H
     obtain ⟨t201,A50,H⟩:=H
     replace H:(if t201=true then (spec_TextOk.l0 k1 a0 (wrap64 (x3_1 + 1))) else (some false))=some r:=H
     have A5:=Ak A50
     clear A50
     by_cases c6:t201=true
     ·subst c6
      have H1:(spec_TextOk.l0 k1 a0 (wrap64 (x3_1 + 1)))=some r:=by rw [if_pos rfl] at H;exact H
      clear H
      have H:=H1
      clear H1
      have H':=Ak H
      clear H
      have p4:0≤(x3_1:Int):=of_decide_eq_true (by first|(with_reducible assumption)|assumption)
      have q4:x3_1<(a0.size:Int):=of_decide_eq_true (by first|(with_reducible assumption)|assumption)
      have hx4:=bt_at a0 x3_1
      replace p4:=eq_true p4
      replace q4:=eq_true q4
      go_wp2_with (first|((with_reducible refine gate_callee (f:=81) rfl ?_);refine goesL_ (some 13) rfl rfl Try.func81 (by kernel_rfl) rfl #[.int .u8 (bt a0 x3_1)] rfl (by (try simp only [List.map_toArray,List.map_cons,List.map_nil]);first|done|rfl|(simp only [List.length_drop,List.length_take];rfl)) ?_;(with_reducible refine (spec_l2Byte.calls (bt a0 x3_1) true _ A5.out).mono ?_);rintro e w' ⟨rfl,⟨nd,rfl⟩⟩;refine ⟨_,rfl,?_⟩))
      go_roundg k1
      case measure=>have:=HK1.out;omega
      case rel=>exact ⟨(wrap64 (x3_1 + 1)),(by first|rfl|(simp;done)|(simp [*];done)),H',⟨by have:=HK1.out;omega⟩,by repeat (first|exact Drawn0.refl _|apply Drawn0.step)⟩
     ·replace c6:=Bool.eq_false_iff.mpr c6
      subst c6
      have H1:(some false)=some r:=by rw [if_neg (show ¬ (false=true) by decide)] at H;exact H
      clear H
      have H:=H1
      clear H1
      obtain rfl:=Option.some.inj H
      have p4:0≤(x3_1:Int):=of_decide_eq_true (by first|(with_reducible assumption)|assumption)
      have q4:x3_1<(a0.size:Int):=of_decide_eq_true (by first|(with_reducible assumption)|assumption)
      have hx4:=bt_at a0 x3_1
      replace p4:=eq_true p4
      replace q4:=eq_true q4
      go_wp2_with (first|((with_reducible refine gate_callee (f:=81) rfl ?_);refine goesL_ (some 13) rfl rfl Try.func81 (by kernel_rfl) rfl #[.int .u8 (bt a0 x3_1)] rfl (by (try simp only [List.map_toArray,List.map_cons,List.map_nil]);first|done|rfl|(simp only [List.length_drop,List.length_take];rfl)) ?_;(with_reducible refine (spec_l2Byte.calls (bt a0 x3_1) false _ A5.out).mono ?_);rintro e w' ⟨rfl,⟨nd,rfl⟩⟩;refine ⟨_,rfl,?_⟩))
      go_ret
      exact ⟨by first|rfl|(simp;done)|(simp [*];done),by repeat (first|exact Drawn0.refl _|apply Drawn0.step)⟩
    ·rw [if_neg c3] at H
     exact absurd H (by simp)
   ·rw [if_neg c2] at H
    have c2b0:decide (x3_1<(a0.size:Int))=false:=decide_eq_false c2
    clear c2
    obtain rfl:=Option.some.inj H
    go_wp2
    go_ret
    exact ⟨by first|rfl|(simp;done)|(simp [*];done),by repeat (first|exact Drawn0.refl _|apply Drawn0.step)⟩
def spec_l5Texts.l0:Nat→List ByteArray→Int→Option (Bool)
 | 0,_,_=>none
 | k + 1,x0,x3=>if x3<(x0.length:Int) then (if 0≤x3 then ((spec_TextOk.f k (rdOf ByteArray.empty x0 x3)).bind fun t203=>(if t203=true then (spec_l5Texts.l0 k x0 (wrap64 (x3 + 1))) else (some false))) else (none)) else (some ((x0.length:Int) == 3))
def spec_l5Texts.f (k:Nat) (l0:List ByteArray):Option (Bool):=spec_l5Texts.l0 k l0 0
theorem spec_l5Texts.calls (k:Nat) (A0:Option Addr) (c0:Nat) (l0:List ByteArray) (r:Bool) (w:World) (hr0:Kd.C Kd.string w A0 l0.length l0) (hc0:l0.length≤c0) (h:spec_l5Texts.f k l0=some r) :
  Calls Try.prog 52 #[.slice A0 l0.length c0] w fun e w'=>e = .returned (.bool r)∧Drawn0 w w':=by
 have HR0:=Ak hr0
 have HC0:=Ak hc0
 clear hr0 hc0
 have H:(spec_l5Texts.l0 k l0 0)=some r:=h
 clear h
 have H':=Ak H
 clear H
 go_enter Try.func52,Try.ntmps52
 go_wp2
 go_loopg [3] k (fun kq v3 w'=>∃ (x3_1:Int),v3 = .int .i64 x3_1∧Aside0 (spec_l5Texts.l0 kq l0 x3_1=some r)∧Aside0 (kq≤k)∧Drawn0 w w')
 case atStart=>exact ⟨(0),(by first|rfl|(simp;done)|(simp [*];done)),H',⟨Nat.le_refl _⟩,by repeat (first|exact Drawn0.refl _|apply Drawn0.step)⟩
 case round =>
  clear H'
  obtain ⟨x3_1,rfl,HA,HK1,⟨m1,rfl⟩⟩:=hrel
  cases gk with
  | zero=>exact absurd HA.out (by simp [spec_l5Texts.l0])
  | succ k1 =>
   have H:=HA.out
   clear HA
   simp only [spec_l5Texts.l0] at H
   by_cases c2:x3_1<(l0.length:Int)
   ·rw [if_pos c2] at H
    have c2b0:decide (x3_1<(l0.length:Int))=true:=decide_eq_true c2
    clear c2
    by_cases c3:0≤x3_1
    ·rw [if_pos c3] at H
     have c3b0:decide (0≤x3_1)=true:=decide_eq_true c3
     clear c3
     replace H:=Option.bind_eq_some_iff.mp H
     obtain ⟨t203,A40,H⟩:=H
     replace H:(if t203=true then (spec_l5Texts.l0 k1 l0 (wrap64 (x3_1 + 1))) else (some false))=some r:=H
     have A4:=Ak A40
     clear A40
     by_cases c5:t203=true
     ·subst c5
      have H1:(spec_l5Texts.l0 k1 l0 (wrap64 (x3_1 + 1)))=some r:=by rw [if_pos rfl] at H;exact H
      clear H
      have H:=H1
      clear H1
      have H':=Ak H
      clear H
      have p202:0≤(x3_1:Int):=of_decide_eq_true (by first|(with_reducible assumption)|assumption)
      have q202:x3_1<(l0.length:Int):=of_decide_eq_true (by first|(with_reducible assumption)|assumption)
      obtain ⟨ad202,e202,hx202_0⟩:=Kd.at_string HR0.out x3_1 p202 q202
      cases e202
      replace p202:=eq_true p202
      replace q202:=eq_true q202
      go_wp2_with (first|((with_reducible refine gate_callee (f:=75) rfl ?_);refine goesL_ (some 14) rfl rfl Try.func75 (by kernel_rfl) rfl #[.string (rdOf ByteArray.empty l0 x3_1)] rfl (by (try simp only [List.map_toArray,List.map_cons,List.map_nil]);first|done|rfl|(simp only [List.length_drop,List.length_take];rfl)) ?_;(with_reducible refine (spec_TextOk.calls k1 (rdOf ByteArray.empty l0 x3_1) true _ A4.out).mono ?_);rintro e w' ⟨rfl,⟨nd,rfl⟩⟩;refine ⟨_,rfl,?_⟩))
      go_roundg k1
      case measure=>have:=HK1.out;omega
      case rel=>exact ⟨(wrap64 (x3_1 + 1)),(by first|rfl|(simp;done)|(simp [*];done)),H',⟨by have:=HK1.out;omega⟩,by repeat (first|exact Drawn0.refl _|apply Drawn0.step)⟩
     ·replace c5:=Bool.eq_false_iff.mpr c5
      subst c5
      have H1:(some false)=some r:=by rw [if_neg (show ¬ (false=true) by decide)] at H;exact H
      clear H
      have H:=H1
      clear H1
      obtain rfl:=Option.some.inj H
      have p202:0≤(x3_1:Int):=of_decide_eq_true (by first|(with_reducible assumption)|assumption)
      have q202:x3_1<(l0.length:Int):=of_decide_eq_true (by first|(with_reducible assumption)|assumption)
      obtain ⟨ad202,e202,hx202_0⟩:=Kd.at_string HR0.out x3_1 p202 q202
      cases e202
      replace p202:=eq_true p202
      replace q202:=eq_true q202
      go_wp2_with (first|((with_reducible refine gate_callee (f:=75) rfl ?_);refine goesL_ (some 14) rfl rfl Try.func75 (by kernel_rfl) rfl #[.string (rdOf ByteArray.empty l0 x3_1)] rfl (by (try simp only [List.map_toArray,List.map_cons,List.map_nil]);first|done|rfl|(simp only [List.length_drop,List.length_take];rfl)) ?_;(with_reducible refine (spec_TextOk.calls k1 (rdOf ByteArray.empty l0 x3_1) false _ A4.out).mono ?_);rintro e w' ⟨rfl,⟨nd,rfl⟩⟩;refine ⟨_,rfl,?_⟩))
      go_ret
      exact ⟨by first|rfl|(simp;done)|(simp [*];done),by repeat (first|exact Drawn0.refl _|apply Drawn0.step)⟩
    ·rw [if_neg c3] at H
     exact absurd H (by simp)
   ·rw [if_neg c2] at H
    have c2b0:decide (x3_1<(l0.length:Int))=false:=decide_eq_false c2
    clear c2
    obtain rfl:=Option.some.inj H
    go_wp2
    go_ret
    exact ⟨by first|rfl|(simp;done)|(simp [*];done),by repeat (first|exact Drawn0.refl _|apply Drawn0.step)⟩
mutual
def spec_StoreOk.j0:Nat→Bool→List ByteArray→List ByteArray→List Int→List Int→List Int→Option (Bool)
 | 0,_,_,_,_,_,_=>none
 | k + 1,x31,x205000,x205001,x205002,x205003,x205004=>if x31=true then (some false) else (spec_StoreOk.l0 k 0 x205000 x205001 x205002 x205003 x205004)
def spec_StoreOk.l0:Nat→Int→List ByteArray→List ByteArray→List Int→List Int→List Int→Option (Bool)
 | 0,_,_,_,_,_,_=>none
 | k + 1,x3,x205000,x205001,x205002,x205003,x205004=>if x3<3 then (if 0≤x3 then (if x3<(x205003.length:Int) then (if (rd x205003 x3)<0 then (some false) else (if x3<(x205002.length:Int) then (if (rd x205003 x3) > (rd x205002 x3) then (some false) else (if (rd x205002 x3) > 1000 then (some false) else (if x3<(x205004.length:Int) then (if (rd x205004 x3)<0 then (some false) else (if (rd x205004 x3) > 100 then (some false) else (spec_StoreOk.l0 k (wrap64 (x3 + 1)) x205000 x205001 x205002 x205003 x205004))) else (none)))) else (none))) else (none)) else (none)) else (some true)
end
def spec_StoreOk.f (k:Nat) (l0_0:List ByteArray) (l0_1:List ByteArray) (l0_2:List Int) (l0_3:List Int) (l0_4:List Int):Option (Bool):=(spec_l5Texts.f k l0_0).bind fun t205=>(if t205=true then ((spec_l5Texts.f k l0_1).bind fun t206=>(if t206=true then (if (l0_2.length:Int)=3 then (if (l0_3.length:Int)=3 then (spec_StoreOk.j0 k ((l0_4.length:Int) != 3) l0_0 l0_1 l0_2 l0_3 l0_4) else (spec_StoreOk.j0 k true l0_0 l0_1 l0_2 l0_3 l0_4)) else (spec_StoreOk.j0 k true l0_0 l0_1 l0_2 l0_3 l0_4)) else (spec_StoreOk.j0 k true l0_0 l0_1 l0_2 l0_3 l0_4))) else (spec_StoreOk.j0 k true l0_0 l0_1 l0_2 l0_3 l0_4))
theorem spec_StoreOk.calls (k:Nat) (A0_0:Option Addr) (c0_0:Nat) (l0_0:List ByteArray) (A0_1:Option Addr) (c0_1:Nat) (l0_1:List ByteArray) (A0_2:Option Addr) (c0_2:Nat) (l0_2:List Int) (A0_3:Option Addr) (c0_3:Nat) (l0_3:List Int) (A0_4:Option Addr) (c0_4:Nat) (l0_4:List Int) (r:Bool) (w:World) (hr0_0:Kd.C Kd.string w A0_0 l0_0.length l0_0) (hc0_0:l0_0.length≤c0_0) (hr0_1:Kd.C Kd.string w A0_1 l0_1.length l0_1) (hc0_1:l0_1.length≤c0_1) (hr0_2:Kd.C (Kd.int .i64) w A0_2 l0_2.length l0_2) (hc0_2:l0_2.length≤c0_2) (hr0_3:Kd.C (Kd.int .i64) w A0_3 l0_3.length l0_3) (hc0_3:l0_3.length≤c0_3) (hr0_4:Kd.C (Kd.int .i64) w A0_4 l0_4.length l0_4) (hc0_4:l0_4.length≤c0_4) (h:spec_StoreOk.f k l0_0 l0_1 l0_2 l0_3 l0_4=some r) :
  Calls Try.prog 19 #[.agg #[.slice A0_0 l0_0.length c0_0,.slice A0_1 l0_1.length c0_1,.slice A0_2 l0_2.length c0_2,.slice A0_3 l0_3.length c0_3,.slice A0_4 l0_4.length c0_4]] w fun e w'=>e = .returned (.bool r)∧Below w.heap.size w w':=by
 have hu26:=Try.underlying26
 have HR0_0:=Ak hr0_0
 have HC0_0:=Ak hc0_0
 clear hr0_0 hc0_0
 have HR0_1:=Ak hr0_1
 have HC0_1:=Ak hc0_1
 clear hr0_1 hc0_1
 have HR0_2:=Ak hr0_2
 have HC0_2:=Ak hc0_2
 clear hr0_2 hc0_2
 have HR0_3:=Ak hr0_3
 have HC0_3:=Ak hc0_3
 clear hr0_3 hc0_3
 have HR0_4:=Ak hr0_4
 have HC0_4:=Ak hc0_4
 clear hr0_4 hc0_4
 have HB:=Ak (Below.refl w.heap.size w)
 have H:((spec_l5Texts.f k l0_0).bind fun t205=>(if t205=true then ((spec_l5Texts.f k l0_1).bind fun t206=>(if t206=true then (if (l0_2.length:Int)=3 then (if (l0_3.length:Int)=3 then (spec_StoreOk.j0 k ((l0_4.length:Int) != 3) l0_0 l0_1 l0_2 l0_3 l0_4) else (spec_StoreOk.j0 k true l0_0 l0_1 l0_2 l0_3 l0_4)) else (spec_StoreOk.j0 k true l0_0 l0_1 l0_2 l0_3 l0_4)) else (spec_StoreOk.j0 k true l0_0 l0_1 l0_2 l0_3 l0_4))) else (spec_StoreOk.j0 k true l0_0 l0_1 l0_2 l0_3 l0_4)))=some r:=h
 clear h
 have HC2:=Ak H
 clear H
 go_enter Try.func19,Try.ntmps19
 go_upto_region 1 with (first|((with_reducible refine gate_dst (N:=1) rfl ?_);(try (refine gate_guard (by rfl) ?_;dsimp only));refine box_event ?hg (N:=1) ?hd (cs:=#[.slice A0_0 l0_0.length c0_0,.slice A0_1 l0_1.length c0_1,.slice A0_2 l0_2.length c0_2,.slice A0_3 l0_3.length c0_3,.slice A0_4 l0_4.length c0_4]) (t:=26) ?hr ?_;(case hd=>rfl);(case hg=>rfl);(case hr=>first|(go_simp;done)|(go_simp;rfl));intro gb204 hg w3 hbox hb;have n0_:=Ak (below_step (by repeat (first|(with_reducible first|exact HB.out|apply below_alloc|apply pw_below_drewN|apply below_drew1)|exact HB.out)) hb);have n1_:=Ak (hbox);have n2_:=Ak ((by rw [hg];exact (below_size (by repeat (first|(with_reducible first|exact HB.out|apply below_alloc|apply pw_below_drewN|apply below_drew1)|exact HB.out))):w.heap.size≤gb204));have n3_:=Ak ((by rw [hg];exact (below_size (by repeat (first|(with_reducible first|exact HB.out|apply below_alloc|apply pw_below_drewN|apply below_drew1)|exact HB.out))):w.heap.size≤gb204));clear HB;have HB:=n0_;have BK204:=n1_;have GW204:=n2_;have GE204:=n3_;clear n0_ n1_ n2_ n3_;clear hb hbox hg))
 repeat (go_quiet (first|((with_reducible refine gate_dst (N:=1) rfl ?_);(try (refine gate_guard (by rfl) ?_;dsimp only));refine box_event ?hg (N:=1) ?hd (cs:=#[.slice A0_0 l0_0.length c0_0,.slice A0_1 l0_1.length c0_1,.slice A0_2 l0_2.length c0_2,.slice A0_3 l0_3.length c0_3,.slice A0_4 l0_4.length c0_4]) (t:=26) ?hr ?_;(case hd=>rfl);(case hg=>rfl);(case hr=>first|(go_simp;done)|(go_simp;rfl));intro gb204 hg w3 hbox hb;have n0_:=Ak (below_step (by repeat (first|(with_reducible first|exact HB.out|apply below_alloc|apply pw_below_drewN|apply below_drew1)|exact HB.out)) hb);have n1_:=Ak (hbox);have n2_:=Ak ((by rw [hg];exact (below_size (by repeat (first|(with_reducible first|exact HB.out|apply below_alloc|apply pw_below_drewN|apply below_drew1)|exact HB.out))):w.heap.size≤gb204));have n3_:=Ak ((by rw [hg];exact (below_size (by repeat (first|(with_reducible first|exact HB.out|apply below_alloc|apply pw_below_drewN|apply below_drew1)|exact HB.out))):w.heap.size≤gb204));clear HB;have HB:=n0_;have BK204:=n1_;have GW204:=n2_;have GE204:=n3_;clear n0_ n1_ n2_ n3_;clear hb hbox hg));go_upto_region 1 with (first|((with_reducible refine gate_dst (N:=1) rfl ?_);(try (refine gate_guard (by rfl) ?_;dsimp only));refine box_event ?hg (N:=1) ?hd (cs:=#[.slice A0_0 l0_0.length c0_0,.slice A0_1 l0_1.length c0_1,.slice A0_2 l0_2.length c0_2,.slice A0_3 l0_3.length c0_3,.slice A0_4 l0_4.length c0_4]) (t:=26) ?hr ?_;(case hd=>rfl);(case hg=>rfl);(case hr=>first|(go_simp;done)|(go_simp;rfl));intro gb204 hg w3 hbox hb;have n0_:=Ak (below_step (by repeat (first|(with_reducible first|exact HB.out|apply below_alloc|apply pw_below_drewN|apply below_drew1)|exact HB.out)) hb);have n1_:=Ak (hbox);have n2_:=Ak ((by rw [hg];exact (below_size (by repeat (first|(with_reducible first|exact HB.out|apply below_alloc|apply pw_below_drewN|apply below_drew1)|exact HB.out))):w.heap.size≤gb204));have n3_:=Ak ((by rw [hg];exact (below_size (by repeat (first|(with_reducible first|exact HB.out|apply below_alloc|apply pw_below_drewN|apply below_drew1)|exact HB.out))):w.heap.size≤gb204));clear HB;have HB:=n0_;have BK204:=n1_;have GW204:=n2_;have GE204:=n3_;clear n0_ n1_ n2_ n3_;clear hb hbox hg)))
 (try simp only [Act.put,zzA,zzB,zzC])
 go_cut [31] (fun v31 wc=>∃ (kq:Nat) (x31_1:Bool),v31 = .bool x31_1∧Aside0 (spec_StoreOk.j0 kq x31_1 l0_0 l0_1 l0_2 l0_3 l0_4=some r)∧Aside0 (kq≤k)∧Aside0 (wc.heap[gb204]?=some (.cells #[(.slice A0_0 l0_0.length c0_0),(.slice A0_1 l0_1.length c0_1),(.slice A0_2 l0_2.length c0_2),(.slice A0_3 l0_3.length c0_3),(.slice A0_4 l0_4.length c0_4)] 26 (0,0)))∧Aside0 (Below w.heap.size w wc))
 case first =>
  have H:=HC2.out
  clear HC2
  replace H:=Option.bind_eq_some_iff.mp H
  obtain ⟨t205,A40,H⟩:=H
  replace H:(if t205=true then ((spec_l5Texts.f k l0_1).bind fun t206=>(if t206=true then (if (l0_2.length:Int)=3 then (if (l0_3.length:Int)=3 then (spec_StoreOk.j0 k ((l0_4.length:Int) != 3) l0_0 l0_1 l0_2 l0_3 l0_4) else (spec_StoreOk.j0 k true l0_0 l0_1 l0_2 l0_3 l0_4)) else (spec_StoreOk.j0 k true l0_0 l0_1 l0_2 l0_3 l0_4)) else (spec_StoreOk.j0 k true l0_0 l0_1 l0_2 l0_3 l0_4))) else (spec_StoreOk.j0 k true l0_0 l0_1 l0_2 l0_3 l0_4))=some r:=H
  have A4:=Ak A40
  clear A40
  by_cases c5:t205=true
  ·subst c5
   have H1:((spec_l5Texts.f k l0_1).bind fun t206=>(if t206=true then (if (l0_2.length:Int)=3 then (if (l0_3.length:Int)=3 then (spec_StoreOk.j0 k ((l0_4.length:Int) != 3) l0_0 l0_1 l0_2 l0_3 l0_4) else (spec_StoreOk.j0 k true l0_0 l0_1 l0_2 l0_3 l0_4)) else (spec_StoreOk.j0 k true l0_0 l0_1 l0_2 l0_3 l0_4)) else (spec_StoreOk.j0 k true l0_0 l0_1 l0_2 l0_3 l0_4)))=some r:=by rw [if_pos rfl] at H;exact H
   clear H
   have H:=H1
   clear H1
   replace H:=Option.bind_eq_some_iff.mp H
   obtain ⟨t206,A60,H⟩:=H
   replace H:(if t206=true then (if (l0_2.length:Int)=3 then (if (l0_3.length:Int)=3 then (spec_StoreOk.j0 k ((l0_4.length:Int) != 3) l0_0 l0_1 l0_2 l0_3 l0_4) else (spec_StoreOk.j0 k true l0_0 l0_1 l0_2 l0_3 l0_4)) else (spec_StoreOk.j0 k true l0_0 l0_1 l0_2 l0_3 l0_4)) else (spec_StoreOk.j0 k true l0_0 l0_1 l0_2 l0_3 l0_4))=some r:=H
   have A6:=Ak A60
   clear A60
   by_cases c7:t206=true
   ·subst c7
    have H1:(if (l0_2.length:Int)=3 then (if (l0_3.length:Int)=3 then (spec_StoreOk.j0 k ((l0_4.length:Int) != 3) l0_0 l0_1 l0_2 l0_3 l0_4) else (spec_StoreOk.j0 k true l0_0 l0_1 l0_2 l0_3 l0_4)) else (spec_StoreOk.j0 k true l0_0 l0_1 l0_2 l0_3 l0_4))=some r:=by rw [if_pos rfl] at H;exact H
    clear H
    have H:=H1
    clear H1
    by_cases c8:(l0_2.length:Int)=3
    ·rw [if_pos c8] at H
     have c8b0:((l0_2.length:Int) == 3)=true:=beq_iff_eq.mpr c8
     have c8b1:((l0_2.length:Int) != 3)=false:=bne_eq_false_iff_eq.mpr c8
     clear c8
     (first|rw [c8b0]|(simp only [i64_w,i32_w];rw [c8b0])|skip)
     by_cases c9:(l0_3.length:Int)=3
     ·rw [if_pos c9] at H
      have c9b0:((l0_3.length:Int) == 3)=true:=beq_iff_eq.mpr c9
      have c9b1:((l0_3.length:Int) != 3)=false:=bne_eq_false_iff_eq.mpr c9
      clear c9
      have H':=Ak H
      clear H
      have hcz10_0:w3.cell? ⟨gb204,0,none⟩=some (.slice A0_0 l0_0.length c0_0):=(blk_cell BK204.out 0).trans rfl
      have hcz10_1:w3.cell? ⟨gb204,1,none⟩=some (.slice A0_1 l0_1.length c0_1):=(blk_cell BK204.out 1).trans rfl
      have hcz10_2:w3.cell? ⟨gb204,2,none⟩=some (.slice A0_2 l0_2.length c0_2):=(blk_cell BK204.out 2).trans rfl
      have hcz10_3:w3.cell? ⟨gb204,3,none⟩=some (.slice A0_3 l0_3.length c0_3):=(blk_cell BK204.out 3).trans rfl
      have hcz10_4:w3.cell? ⟨gb204,4,none⟩=some (.slice A0_4 l0_4.length c0_4):=(blk_cell BK204.out 4).trans rfl
      have hfz10_0:=blk_frozen BK204.out 0
      have hfz10_1:=blk_frozen BK204.out 1
      have hfz10_2:=blk_frozen BK204.out 2
      have hfz10_3:=blk_frozen BK204.out 3
      have hfz10_4:=blk_frozen BK204.out 4
      go_wp2_with (first|(go_at_call 52;(with_reducible refine (spec_l5Texts.calls k _ _ l0_0 true _ ?side1 ?side2 A4.out).mono ?_);(case side1=>repeat (first|exact (Kd.C_below HR0_0.out HB.out)|(with_reducible refine Kd.C_alloc ?_ _)|(with_reducible refine Kd.C_drewN ?_ _)|(with_reducible refine Kd.C_drew ?_)));(case side2=>exact HC0_0.out);rintro e w' ⟨rfl,⟨nd,rfl⟩⟩;(try first|exact ⟨rfl,_,World.drewN_drewN _ _ _⟩|exact ⟨rfl,_,Eq.trans (World.drewN_drewN _ _ _) (congrArg (World.drewN _) (Nat.add_assoc _ _ _))⟩))|(go_at_call 52;(with_reducible refine (spec_l5Texts.calls k _ _ l0_1 true _ ?side1 ?side2 A6.out).mono ?_);(case side1=>repeat (first|exact (Kd.C_below HR0_1.out (by repeat (first|(with_reducible first|exact HB.out|apply below_alloc|apply pw_below_drewN|apply below_drew1|refine below_set ?_ GE204.out)|exact HB.out)))|(with_reducible refine Kd.C_alloc ?_ _)|(with_reducible refine Kd.C_drewN ?_ _)|(with_reducible refine Kd.C_drew ?_)));(case side2=>exact HC0_1.out);rintro e w' ⟨rfl,⟨nd,rfl⟩⟩;(try first|exact ⟨rfl,_,World.drewN_drewN _ _ _⟩|exact ⟨rfl,_,Eq.trans (World.drewN_drewN _ _ _) (congrArg (World.drewN _) (Nat.add_assoc _ _ _))⟩)))
      repeat (go_quiet (first|(go_at_call 52;(with_reducible refine (spec_l5Texts.calls k _ _ l0_0 true _ ?side1 ?side2 A4.out).mono ?_);(case side1=>repeat (first|exact (Kd.C_below HR0_0.out HB.out)|(with_reducible refine Kd.C_alloc ?_ _)|(with_reducible refine Kd.C_drewN ?_ _)|(with_reducible refine Kd.C_drew ?_)));(case side2=>exact HC0_0.out);rintro e w' ⟨rfl,⟨nd,rfl⟩⟩;(try first|exact ⟨rfl,_,World.drewN_drewN _ _ _⟩|exact ⟨rfl,_,Eq.trans (World.drewN_drewN _ _ _) (congrArg (World.drewN _) (Nat.add_assoc _ _ _))⟩))|(go_at_call 52;(with_reducible refine (spec_l5Texts.calls k _ _ l0_1 true _ ?side1 ?side2 A6.out).mono ?_);(case side1=>repeat (first|exact (Kd.C_below HR0_1.out (by repeat (first|(with_reducible first|exact HB.out|apply below_alloc|apply pw_below_drewN|apply below_drew1|refine below_set ?_ GE204.out)|exact HB.out)))|(with_reducible refine Kd.C_alloc ?_ _)|(with_reducible refine Kd.C_drewN ?_ _)|(with_reducible refine Kd.C_drew ?_)));(case side2=>exact HC0_1.out);rintro e w' ⟨rfl,⟨nd,rfl⟩⟩;(try first|exact ⟨rfl,_,World.drewN_drewN _ _ _⟩|exact ⟨rfl,_,Eq.trans (World.drewN_drewN _ _ _) (congrArg (World.drewN _) (Nat.add_assoc _ _ _))⟩)));try go_wp2_with (first|(go_at_call 52;(with_reducible refine (spec_l5Texts.calls k _ _ l0_0 true _ ?side1 ?side2 A4.out).mono ?_);(case side1=>repeat (first|exact (Kd.C_below HR0_0.out HB.out)|(with_reducible refine Kd.C_alloc ?_ _)|(with_reducible refine Kd.C_drewN ?_ _)|(with_reducible refine Kd.C_drew ?_)));(case side2=>exact HC0_0.out);rintro e w' ⟨rfl,⟨nd,rfl⟩⟩;(try first|exact ⟨rfl,_,World.drewN_drewN _ _ _⟩|exact ⟨rfl,_,Eq.trans (World.drewN_drewN _ _ _) (congrArg (World.drewN _) (Nat.add_assoc _ _ _))⟩))|(go_at_call 52;(with_reducible refine (spec_l5Texts.calls k _ _ l0_1 true _ ?side1 ?side2 A6.out).mono ?_);(case side1=>repeat (first|exact (Kd.C_below HR0_1.out (by repeat (first|(with_reducible first|exact HB.out|apply below_alloc|apply pw_below_drewN|apply below_drew1|refine below_set ?_ GE204.out)|exact HB.out)))|(with_reducible refine Kd.C_alloc ?_ _)|(with_reducible refine Kd.C_drewN ?_ _)|(with_reducible refine Kd.C_drew ?_)));(case side2=>exact HC0_1.out);rintro e w' ⟨rfl,⟨nd,rfl⟩⟩;(try first|exact ⟨rfl,_,World.drewN_drewN _ _ _⟩|exact ⟨rfl,_,Eq.trans (World.drewN_drewN _ _ _) (congrArg (World.drewN _) (Nat.add_assoc _ _ _))⟩))))
      go_meet
      case rel=>exact ⟨_,(((l0_4.length:Int) != 3)),(by first|rfl|(simp;done)|(simp [*];done)),H',⟨by first|omega|exact Nat.le_refl _⟩,⟨by (with_reducible repeat (first|refine blk_drewN ?_ _|refine blk_drew ?_|refine blk_alloc ?_ _));exact BK204.out⟩,⟨by repeat (first|(with_reducible first|exact HB.out|apply below_alloc|apply pw_below_drewN|apply below_drew1|refine below_set ?_ GE204.out)|exact HB.out)⟩⟩
     ·rw [if_neg c9] at H
      have c9b0:((l0_3.length:Int) == 3)=false:=beq_eq_false_iff_ne.mpr c9
      have c9b1:((l0_3.length:Int) != 3)=true:=bne_iff_ne.mpr c9
      have H':=Ak H
      clear H
      have hcz11_0:w3.cell? ⟨gb204,0,none⟩=some (.slice A0_0 l0_0.length c0_0):=(blk_cell BK204.out 0).trans rfl
      have hcz11_1:w3.cell? ⟨gb204,1,none⟩=some (.slice A0_1 l0_1.length c0_1):=(blk_cell BK204.out 1).trans rfl
      have hcz11_2:w3.cell? ⟨gb204,2,none⟩=some (.slice A0_2 l0_2.length c0_2):=(blk_cell BK204.out 2).trans rfl
      have hcz11_3:w3.cell? ⟨gb204,3,none⟩=some (.slice A0_3 l0_3.length c0_3):=(blk_cell BK204.out 3).trans rfl
      have hcz11_4:w3.cell? ⟨gb204,4,none⟩=some (.slice A0_4 l0_4.length c0_4):=(blk_cell BK204.out 4).trans rfl
      have hfz11_0:=blk_frozen BK204.out 0
      have hfz11_1:=blk_frozen BK204.out 1
      have hfz11_2:=blk_frozen BK204.out 2
      have hfz11_3:=blk_frozen BK204.out 3
      have hfz11_4:=blk_frozen BK204.out 4
      go_wp2_with (first|(go_at_call 52;(with_reducible refine (spec_l5Texts.calls k _ _ l0_0 true _ ?side1 ?side2 A4.out).mono ?_);(case side1=>repeat (first|exact (Kd.C_below HR0_0.out HB.out)|(with_reducible refine Kd.C_alloc ?_ _)|(with_reducible refine Kd.C_drewN ?_ _)|(with_reducible refine Kd.C_drew ?_)));(case side2=>exact HC0_0.out);rintro e w' ⟨rfl,⟨nd,rfl⟩⟩;(try first|exact ⟨rfl,_,World.drewN_drewN _ _ _⟩|exact ⟨rfl,_,Eq.trans (World.drewN_drewN _ _ _) (congrArg (World.drewN _) (Nat.add_assoc _ _ _))⟩))|(go_at_call 52;(with_reducible refine (spec_l5Texts.calls k _ _ l0_1 true _ ?side1 ?side2 A6.out).mono ?_);(case side1=>repeat (first|exact (Kd.C_below HR0_1.out (by repeat (first|(with_reducible first|exact HB.out|apply below_alloc|apply pw_below_drewN|apply below_drew1|refine below_set ?_ GE204.out)|exact HB.out)))|(with_reducible refine Kd.C_alloc ?_ _)|(with_reducible refine Kd.C_drewN ?_ _)|(with_reducible refine Kd.C_drew ?_)));(case side2=>exact HC0_1.out);rintro e w' ⟨rfl,⟨nd,rfl⟩⟩;(try first|exact ⟨rfl,_,World.drewN_drewN _ _ _⟩|exact ⟨rfl,_,Eq.trans (World.drewN_drewN _ _ _) (congrArg (World.drewN _) (Nat.add_assoc _ _ _))⟩)))
      repeat (go_quiet (first|(go_at_call 52;(with_reducible refine (spec_l5Texts.calls k _ _ l0_0 true _ ?side1 ?side2 A4.out).mono ?_);(case side1=>repeat (first|exact (Kd.C_below HR0_0.out HB.out)|(with_reducible refine Kd.C_alloc ?_ _)|(with_reducible refine Kd.C_drewN ?_ _)|(with_reducible refine Kd.C_drew ?_)));(case side2=>exact HC0_0.out);rintro e w' ⟨rfl,⟨nd,rfl⟩⟩;(try first|exact ⟨rfl,_,World.drewN_drewN _ _ _⟩|exact ⟨rfl,_,Eq.trans (World.drewN_drewN _ _ _) (congrArg (World.drewN _) (Nat.add_assoc _ _ _))⟩))|(go_at_call 52;(with_reducible refine (spec_l5Texts.calls k _ _ l0_1 true _ ?side1 ?side2 A6.out).mono ?_);(case side1=>repeat (first|exact (Kd.C_below HR0_1.out (by repeat (first|(with_reducible first|exact HB.out|apply below_alloc|apply pw_below_drewN|apply below_drew1|refine below_set ?_ GE204.out)|exact HB.out)))|(with_reducible refine Kd.C_alloc ?_ _)|(with_reducible refine Kd.C_drewN ?_ _)|(with_reducible refine Kd.C_drew ?_)));(case side2=>exact HC0_1.out);rintro e w' ⟨rfl,⟨nd,rfl⟩⟩;(try first|exact ⟨rfl,_,World.drewN_drewN _ _ _⟩|exact ⟨rfl,_,Eq.trans (World.drewN_drewN _ _ _) (congrArg (World.drewN _) (Nat.add_assoc _ _ _))⟩)));try go_wp2_with (first|(go_at_call 52;(with_reducible refine (spec_l5Texts.calls k _ _ l0_0 true _ ?side1 ?side2 A4.out).mono ?_);(case side1=>repeat (first|exact (Kd.C_below HR0_0.out HB.out)|(with_reducible refine Kd.C_alloc ?_ _)|(with_reducible refine Kd.C_drewN ?_ _)|(with_reducible refine Kd.C_drew ?_)));(case side2=>exact HC0_0.out);rintro e w' ⟨rfl,⟨nd,rfl⟩⟩;(try first|exact ⟨rfl,_,World.drewN_drewN _ _ _⟩|exact ⟨rfl,_,Eq.trans (World.drewN_drewN _ _ _) (congrArg (World.drewN _) (Nat.add_assoc _ _ _))⟩))|(go_at_call 52;(with_reducible refine (spec_l5Texts.calls k _ _ l0_1 true _ ?side1 ?side2 A6.out).mono ?_);(case side1=>repeat (first|exact (Kd.C_below HR0_1.out (by repeat (first|(with_reducible first|exact HB.out|apply below_alloc|apply pw_below_drewN|apply below_drew1|refine below_set ?_ GE204.out)|exact HB.out)))|(with_reducible refine Kd.C_alloc ?_ _)|(with_reducible refine Kd.C_drewN ?_ _)|(with_reducible refine Kd.C_drew ?_)));(case side2=>exact HC0_1.out);rintro e w' ⟨rfl,⟨nd,rfl⟩⟩;(try first|exact ⟨rfl,_,World.drewN_drewN _ _ _⟩|exact ⟨rfl,_,Eq.trans (World.drewN_drewN _ _ _) (congrArg (World.drewN _) (Nat.add_assoc _ _ _))⟩))))
      go_meet
      case rel=>exact ⟨_,(true),(by first|rfl|(simp;done)|(simp [*];done)),H',⟨by first|omega|exact Nat.le_refl _⟩,⟨by (with_reducible repeat (first|refine blk_drewN ?_ _|refine blk_drew ?_|refine blk_alloc ?_ _));exact BK204.out⟩,⟨by repeat (first|(with_reducible first|exact HB.out|apply below_alloc|apply pw_below_drewN|apply below_drew1|refine below_set ?_ GE204.out)|exact HB.out)⟩⟩
    ·rw [if_neg c8] at H
     have c8b0:((l0_2.length:Int) == 3)=false:=beq_eq_false_iff_ne.mpr c8
     have c8b1:((l0_2.length:Int) != 3)=true:=bne_iff_ne.mpr c8
     (first|rw [c8b0]|(simp only [i64_w,i32_w];rw [c8b0])|skip)
     have H':=Ak H
     clear H
     have hcz12_0:w3.cell? ⟨gb204,0,none⟩=some (.slice A0_0 l0_0.length c0_0):=(blk_cell BK204.out 0).trans rfl
     have hcz12_1:w3.cell? ⟨gb204,1,none⟩=some (.slice A0_1 l0_1.length c0_1):=(blk_cell BK204.out 1).trans rfl
     have hcz12_2:w3.cell? ⟨gb204,2,none⟩=some (.slice A0_2 l0_2.length c0_2):=(blk_cell BK204.out 2).trans rfl
     have hcz12_3:w3.cell? ⟨gb204,3,none⟩=some (.slice A0_3 l0_3.length c0_3):=(blk_cell BK204.out 3).trans rfl
     have hcz12_4:w3.cell? ⟨gb204,4,none⟩=some (.slice A0_4 l0_4.length c0_4):=(blk_cell BK204.out 4).trans rfl
     have hfz12_0:=blk_frozen BK204.out 0
     have hfz12_1:=blk_frozen BK204.out 1
     have hfz12_2:=blk_frozen BK204.out 2
     have hfz12_3:=blk_frozen BK204.out 3
     have hfz12_4:=blk_frozen BK204.out 4
     go_wp2_with (first|(go_at_call 52;(with_reducible refine (spec_l5Texts.calls k _ _ l0_0 true _ ?side1 ?side2 A4.out).mono ?_);(case side1=>repeat (first|exact (Kd.C_below HR0_0.out HB.out)|(with_reducible refine Kd.C_alloc ?_ _)|(with_reducible refine Kd.C_drewN ?_ _)|(with_reducible refine Kd.C_drew ?_)));(case side2=>exact HC0_0.out);rintro e w' ⟨rfl,⟨nd,rfl⟩⟩;(try first|exact ⟨rfl,_,World.drewN_drewN _ _ _⟩|exact ⟨rfl,_,Eq.trans (World.drewN_drewN _ _ _) (congrArg (World.drewN _) (Nat.add_assoc _ _ _))⟩))|(go_at_call 52;(with_reducible refine (spec_l5Texts.calls k _ _ l0_1 true _ ?side1 ?side2 A6.out).mono ?_);(case side1=>repeat (first|exact (Kd.C_below HR0_1.out (by repeat (first|(with_reducible first|exact HB.out|apply below_alloc|apply pw_below_drewN|apply below_drew1|refine below_set ?_ GE204.out)|exact HB.out)))|(with_reducible refine Kd.C_alloc ?_ _)|(with_reducible refine Kd.C_drewN ?_ _)|(with_reducible refine Kd.C_drew ?_)));(case side2=>exact HC0_1.out);rintro e w' ⟨rfl,⟨nd,rfl⟩⟩;(try first|exact ⟨rfl,_,World.drewN_drewN _ _ _⟩|exact ⟨rfl,_,Eq.trans (World.drewN_drewN _ _ _) (congrArg (World.drewN _) (Nat.add_assoc _ _ _))⟩)))
     repeat (go_quiet (first|(go_at_call 52;(with_reducible refine (spec_l5Texts.calls k _ _ l0_0 true _ ?side1 ?side2 A4.out).mono ?_);(case side1=>repeat (first|exact (Kd.C_below HR0_0.out HB.out)|(with_reducible refine Kd.C_alloc ?_ _)|(with_reducible refine Kd.C_drewN ?_ _)|(with_reducible refine Kd.C_drew ?_)));(case side2=>exact HC0_0.out);rintro e w' ⟨rfl,⟨nd,rfl⟩⟩;(try first|exact ⟨rfl,_,World.drewN_drewN _ _ _⟩|exact ⟨rfl,_,Eq.trans (World.drewN_drewN _ _ _) (congrArg (World.drewN _) (Nat.add_assoc _ _ _))⟩))|(go_at_call 52;(with_reducible refine (spec_l5Texts.calls k _ _ l0_1 true _ ?side1 ?side2 A6.out).mono ?_);(case side1=>repeat (first|exact (Kd.C_below HR0_1.out (by repeat (first|(with_reducible first|exact HB.out|apply below_alloc|apply pw_below_drewN|apply below_drew1|refine below_set ?_ GE204.out)|exact HB.out)))|(with_reducible refine Kd.C_alloc ?_ _)|(with_reducible refine Kd.C_drewN ?_ _)|(with_reducible refine Kd.C_drew ?_)));(case side2=>exact HC0_1.out);rintro e w' ⟨rfl,⟨nd,rfl⟩⟩;(try first|exact ⟨rfl,_,World.drewN_drewN _ _ _⟩|exact ⟨rfl,_,Eq.trans (World.drewN_drewN _ _ _) (congrArg (World.drewN _) (Nat.add_assoc _ _ _))⟩)));try go_wp2_with (first|(go_at_call 52;(with_reducible refine (spec_l5Texts.calls k _ _ l0_0 true _ ?side1 ?side2 A4.out).mono ?_);(case side1=>repeat (first|exact (Kd.C_below HR0_0.out HB.out)|(with_reducible refine Kd.C_alloc ?_ _)|(with_reducible refine Kd.C_drewN ?_ _)|(with_reducible refine Kd.C_drew ?_)));(case side2=>exact HC0_0.out);rintro e w' ⟨rfl,⟨nd,rfl⟩⟩;(try first|exact ⟨rfl,_,World.drewN_drewN _ _ _⟩|exact ⟨rfl,_,Eq.trans (World.drewN_drewN _ _ _) (congrArg (World.drewN _) (Nat.add_assoc _ _ _))⟩))|(go_at_call 52;(with_reducible refine (spec_l5Texts.calls k _ _ l0_1 true _ ?side1 ?side2 A6.out).mono ?_);(case side1=>repeat (first|exact (Kd.C_below HR0_1.out (by repeat (first|(with_reducible first|exact HB.out|apply below_alloc|apply pw_below_drewN|apply below_drew1|refine below_set ?_ GE204.out)|exact HB.out)))|(with_reducible refine Kd.C_alloc ?_ _)|(with_reducible refine Kd.C_drewN ?_ _)|(with_reducible refine Kd.C_drew ?_)));(case side2=>exact HC0_1.out);rintro e w' ⟨rfl,⟨nd,rfl⟩⟩;(try first|exact ⟨rfl,_,World.drewN_drewN _ _ _⟩|exact ⟨rfl,_,Eq.trans (World.drewN_drewN _ _ _) (congrArg (World.drewN _) (Nat.add_assoc _ _ _))⟩))))
     go_meet
     case rel=>exact ⟨_,(true),(by first|rfl|(simp;done)|(simp [*];done)),H',⟨by first|omega|exact Nat.le_refl _⟩,⟨by (with_reducible repeat (first|refine blk_drewN ?_ _|refine blk_drew ?_|refine blk_alloc ?_ _));exact BK204.out⟩,⟨by repeat (first|(with_reducible first|exact HB.out|apply below_alloc|apply pw_below_drewN|apply below_drew1|refine below_set ?_ GE204.out)|exact HB.out)⟩⟩
   ·replace c7:=Bool.eq_false_iff.mpr c7
    subst c7
    have H1:(spec_StoreOk.j0 k true l0_0 l0_1 l0_2 l0_3 l0_4)=some r:=by rw [if_neg (show ¬ (false=true) by decide)] at H;exact H
    clear H
    have H:=H1
    clear H1
    have H':=Ak H
    clear H
    have hcz13_0:w3.cell? ⟨gb204,0,none⟩=some (.slice A0_0 l0_0.length c0_0):=(blk_cell BK204.out 0).trans rfl
    have hcz13_1:w3.cell? ⟨gb204,1,none⟩=some (.slice A0_1 l0_1.length c0_1):=(blk_cell BK204.out 1).trans rfl
    have hcz13_2:w3.cell? ⟨gb204,2,none⟩=some (.slice A0_2 l0_2.length c0_2):=(blk_cell BK204.out 2).trans rfl
    have hcz13_3:w3.cell? ⟨gb204,3,none⟩=some (.slice A0_3 l0_3.length c0_3):=(blk_cell BK204.out 3).trans rfl
    have hcz13_4:w3.cell? ⟨gb204,4,none⟩=some (.slice A0_4 l0_4.length c0_4):=(blk_cell BK204.out 4).trans rfl
    have hfz13_0:=blk_frozen BK204.out 0
    have hfz13_1:=blk_frozen BK204.out 1
    have hfz13_2:=blk_frozen BK204.out 2
    have hfz13_3:=blk_frozen BK204.out 3
    have hfz13_4:=blk_frozen BK204.out 4
    go_wp2_with (first|(go_at_call 52;(with_reducible refine (spec_l5Texts.calls k _ _ l0_0 true _ ?side1 ?side2 A4.out).mono ?_);(case side1=>repeat (first|exact (Kd.C_below HR0_0.out HB.out)|(with_reducible refine Kd.C_alloc ?_ _)|(with_reducible refine Kd.C_drewN ?_ _)|(with_reducible refine Kd.C_drew ?_)));(case side2=>exact HC0_0.out);rintro e w' ⟨rfl,⟨nd,rfl⟩⟩;(try first|exact ⟨rfl,_,World.drewN_drewN _ _ _⟩|exact ⟨rfl,_,Eq.trans (World.drewN_drewN _ _ _) (congrArg (World.drewN _) (Nat.add_assoc _ _ _))⟩))|(go_at_call 52;(with_reducible refine (spec_l5Texts.calls k _ _ l0_1 false _ ?side1 ?side2 A6.out).mono ?_);(case side1=>repeat (first|exact (Kd.C_below HR0_1.out (by repeat (first|(with_reducible first|exact HB.out|apply below_alloc|apply pw_below_drewN|apply below_drew1|refine below_set ?_ GE204.out)|exact HB.out)))|(with_reducible refine Kd.C_alloc ?_ _)|(with_reducible refine Kd.C_drewN ?_ _)|(with_reducible refine Kd.C_drew ?_)));(case side2=>exact HC0_1.out);rintro e w' ⟨rfl,⟨nd,rfl⟩⟩;(try first|exact ⟨rfl,_,World.drewN_drewN _ _ _⟩|exact ⟨rfl,_,Eq.trans (World.drewN_drewN _ _ _) (congrArg (World.drewN _) (Nat.add_assoc _ _ _))⟩)))
    repeat (go_quiet (first|(go_at_call 52;(with_reducible refine (spec_l5Texts.calls k _ _ l0_0 true _ ?side1 ?side2 A4.out).mono ?_);(case side1=>repeat (first|exact (Kd.C_below HR0_0.out HB.out)|(with_reducible refine Kd.C_alloc ?_ _)|(with_reducible refine Kd.C_drewN ?_ _)|(with_reducible refine Kd.C_drew ?_)));(case side2=>exact HC0_0.out);rintro e w' ⟨rfl,⟨nd,rfl⟩⟩;(try first|exact ⟨rfl,_,World.drewN_drewN _ _ _⟩|exact ⟨rfl,_,Eq.trans (World.drewN_drewN _ _ _) (congrArg (World.drewN _) (Nat.add_assoc _ _ _))⟩))|(go_at_call 52;(with_reducible refine (spec_l5Texts.calls k _ _ l0_1 false _ ?side1 ?side2 A6.out).mono ?_);(case side1=>repeat (first|exact (Kd.C_below HR0_1.out (by repeat (first|(with_reducible first|exact HB.out|apply below_alloc|apply pw_below_drewN|apply below_drew1|refine below_set ?_ GE204.out)|exact HB.out)))|(with_reducible refine Kd.C_alloc ?_ _)|(with_reducible refine Kd.C_drewN ?_ _)|(with_reducible refine Kd.C_drew ?_)));(case side2=>exact HC0_1.out);rintro e w' ⟨rfl,⟨nd,rfl⟩⟩;(try first|exact ⟨rfl,_,World.drewN_drewN _ _ _⟩|exact ⟨rfl,_,Eq.trans (World.drewN_drewN _ _ _) (congrArg (World.drewN _) (Nat.add_assoc _ _ _))⟩)));try go_wp2_with (first|(go_at_call 52;(with_reducible refine (spec_l5Texts.calls k _ _ l0_0 true _ ?side1 ?side2 A4.out).mono ?_);(case side1=>repeat (first|exact (Kd.C_below HR0_0.out HB.out)|(with_reducible refine Kd.C_alloc ?_ _)|(with_reducible refine Kd.C_drewN ?_ _)|(with_reducible refine Kd.C_drew ?_)));(case side2=>exact HC0_0.out);rintro e w' ⟨rfl,⟨nd,rfl⟩⟩;(try first|exact ⟨rfl,_,World.drewN_drewN _ _ _⟩|exact ⟨rfl,_,Eq.trans (World.drewN_drewN _ _ _) (congrArg (World.drewN _) (Nat.add_assoc _ _ _))⟩))|(go_at_call 52;(with_reducible refine (spec_l5Texts.calls k _ _ l0_1 false _ ?side1 ?side2 A6.out).mono ?_);(case side1=>repeat (first|exact (Kd.C_below HR0_1.out (by repeat (first|(with_reducible first|exact HB.out|apply below_alloc|apply pw_below_drewN|apply below_drew1|refine below_set ?_ GE204.out)|exact HB.out)))|(with_reducible refine Kd.C_alloc ?_ _)|(with_reducible refine Kd.C_drewN ?_ _)|(with_reducible refine Kd.C_drew ?_)));(case side2=>exact HC0_1.out);rintro e w' ⟨rfl,⟨nd,rfl⟩⟩;(try first|exact ⟨rfl,_,World.drewN_drewN _ _ _⟩|exact ⟨rfl,_,Eq.trans (World.drewN_drewN _ _ _) (congrArg (World.drewN _) (Nat.add_assoc _ _ _))⟩))))
    go_meet
    case rel=>exact ⟨_,(true),(by first|rfl|(simp;done)|(simp [*];done)),H',⟨by first|omega|exact Nat.le_refl _⟩,⟨by (with_reducible repeat (first|refine blk_drewN ?_ _|refine blk_drew ?_|refine blk_alloc ?_ _));exact BK204.out⟩,⟨by repeat (first|(with_reducible first|exact HB.out|apply below_alloc|apply pw_below_drewN|apply below_drew1|refine below_set ?_ GE204.out)|exact HB.out)⟩⟩
  ·replace c5:=Bool.eq_false_iff.mpr c5
   subst c5
   have H1:(spec_StoreOk.j0 k true l0_0 l0_1 l0_2 l0_3 l0_4)=some r:=by rw [if_neg (show ¬ (false=true) by decide)] at H;exact H
   clear H
   have H:=H1
   clear H1
   have H':=Ak H
   clear H
   have hcz14_0:w3.cell? ⟨gb204,0,none⟩=some (.slice A0_0 l0_0.length c0_0):=(blk_cell BK204.out 0).trans rfl
   have hcz14_1:w3.cell? ⟨gb204,1,none⟩=some (.slice A0_1 l0_1.length c0_1):=(blk_cell BK204.out 1).trans rfl
   have hcz14_2:w3.cell? ⟨gb204,2,none⟩=some (.slice A0_2 l0_2.length c0_2):=(blk_cell BK204.out 2).trans rfl
   have hcz14_3:w3.cell? ⟨gb204,3,none⟩=some (.slice A0_3 l0_3.length c0_3):=(blk_cell BK204.out 3).trans rfl
   have hcz14_4:w3.cell? ⟨gb204,4,none⟩=some (.slice A0_4 l0_4.length c0_4):=(blk_cell BK204.out 4).trans rfl
   have hfz14_0:=blk_frozen BK204.out 0
   have hfz14_1:=blk_frozen BK204.out 1
   have hfz14_2:=blk_frozen BK204.out 2
   have hfz14_3:=blk_frozen BK204.out 3
   have hfz14_4:=blk_frozen BK204.out 4
   go_wp2_with (first|(go_at_call 52;(with_reducible refine (spec_l5Texts.calls k _ _ l0_0 false _ ?side1 ?side2 A4.out).mono ?_);(case side1=>repeat (first|exact (Kd.C_below HR0_0.out HB.out)|(with_reducible refine Kd.C_alloc ?_ _)|(with_reducible refine Kd.C_drewN ?_ _)|(with_reducible refine Kd.C_drew ?_)));(case side2=>exact HC0_0.out);rintro e w' ⟨rfl,⟨nd,rfl⟩⟩;(try first|exact ⟨rfl,_,World.drewN_drewN _ _ _⟩|exact ⟨rfl,_,Eq.trans (World.drewN_drewN _ _ _) (congrArg (World.drewN _) (Nat.add_assoc _ _ _))⟩)))
   repeat (go_quiet (first|(go_at_call 52;(with_reducible refine (spec_l5Texts.calls k _ _ l0_0 false _ ?side1 ?side2 A4.out).mono ?_);(case side1=>repeat (first|exact (Kd.C_below HR0_0.out HB.out)|(with_reducible refine Kd.C_alloc ?_ _)|(with_reducible refine Kd.C_drewN ?_ _)|(with_reducible refine Kd.C_drew ?_)));(case side2=>exact HC0_0.out);rintro e w' ⟨rfl,⟨nd,rfl⟩⟩;(try first|exact ⟨rfl,_,World.drewN_drewN _ _ _⟩|exact ⟨rfl,_,Eq.trans (World.drewN_drewN _ _ _) (congrArg (World.drewN _) (Nat.add_assoc _ _ _))⟩)));try go_wp2_with (first|(go_at_call 52;(with_reducible refine (spec_l5Texts.calls k _ _ l0_0 false _ ?side1 ?side2 A4.out).mono ?_);(case side1=>repeat (first|exact (Kd.C_below HR0_0.out HB.out)|(with_reducible refine Kd.C_alloc ?_ _)|(with_reducible refine Kd.C_drewN ?_ _)|(with_reducible refine Kd.C_drew ?_)));(case side2=>exact HC0_0.out);rintro e w' ⟨rfl,⟨nd,rfl⟩⟩;(try first|exact ⟨rfl,_,World.drewN_drewN _ _ _⟩|exact ⟨rfl,_,Eq.trans (World.drewN_drewN _ _ _) (congrArg (World.drewN _) (Nat.add_assoc _ _ _))⟩))))
   go_meet
   case rel=>exact ⟨_,(true),(by first|rfl|(simp;done)|(simp [*];done)),H',⟨by first|omega|exact Nat.le_refl _⟩,⟨by (with_reducible repeat (first|refine blk_drewN ?_ _|refine blk_drew ?_|refine blk_alloc ?_ _));exact BK204.out⟩,⟨by repeat (first|(with_reducible first|exact HB.out|apply below_alloc|apply pw_below_drewN|apply below_drew1|refine below_set ?_ GE204.out)|exact HB.out)⟩⟩
 case rest =>
  clear HC2
  try clear c1
  try clear p2
  try clear c5
  try clear c7
  try clear c8
  try clear c8b0
  try clear c8b1
  try clear c9
  try clear c9b0
  try clear c9b1
  try clear hcz10_0
  try clear hcz10_1
  try clear hcz10_2
  try clear hcz10_3
  try clear hcz10_4
  try clear hcz11_0
  try clear hcz11_1
  try clear hcz11_2
  try clear hcz11_3
  try clear hcz11_4
  try clear hcz12_0
  try clear hcz12_1
  try clear hcz12_2
  try clear hcz12_3
  try clear hcz12_4
  try clear hcz13_0
  try clear hcz13_1
  try clear hcz13_2
  try clear hcz13_3
  try clear hcz13_4
  try clear hcz14_0
  try clear hcz14_1
  try clear hcz14_2
  try clear hcz14_3
  try clear hcz14_4
  try clear hfz10_0
  try clear hfz10_1
  try clear hfz10_2
  try clear hfz10_3
  try clear hfz10_4
  try clear hfz11_0
  try clear hfz11_1
  try clear hfz11_2
  try clear hfz11_3
  try clear hfz11_4
  try clear hfz12_0
  try clear hfz12_1
  try clear hfz12_2
  try clear hfz12_3
  try clear hfz12_4
  try clear hfz13_0
  try clear hfz13_1
  try clear hfz13_2
  try clear hfz13_3
  try clear hfz13_4
  try clear hfz14_0
  try clear hfz14_1
  try clear hfz14_2
  try clear hfz14_3
  try clear hfz14_4
  obtain ⟨kq,x31_1,rfl,HA,HJ1,BK204,HB⟩:=hcut
  cases kq with
  | zero=>exact absurd HA.out (by simp [spec_StoreOk.j0])
  | succ kj1 =>
   have H:=HA.out
   clear HA
   simp only [spec_StoreOk.j0] at H
   by_cases c15:x31_1=true
   ·subst c15
    have H1:(some false)=some r:=by rw [if_pos rfl] at H;exact H
    clear H
    have H:=H1
    clear H1
    obtain rfl:=Option.some.inj H
    go_wp2
    repeat (go_quiet (fail);try go_wp2)
    go_ret
    exact ⟨by first|rfl|(simp [errW_none,errW_some] <;> rfl)|(simp [*,errW_none,errW_some] <;> rfl),by repeat (first|(with_reducible first|exact HB.out|apply below_alloc|apply pw_below_drewN|apply below_drew1|refine below_set ?_ GE204.out)|exact HB.out)⟩
   ·replace c15:=Bool.eq_false_iff.mpr c15
    subst c15
    have H1:(spec_StoreOk.l0 kj1 0 l0_0 l0_1 l0_2 l0_3 l0_4)=some r:=by rw [if_neg (show ¬ (false=true) by decide)] at H;exact H
    clear H
    have H:=H1
    clear H1
    have H':=Ak H
    clear H
    go_wp2
    repeat (go_quiet (fail);try go_wp2)
    go_loopg [3] kj1 (fun kq v3 w'=>∃ (x3_2:Int),v3 = .int .i64 x3_2∧Aside0 (spec_StoreOk.l0 kq x3_2 l0_0 l0_1 l0_2 l0_3 l0_4=some r)∧Aside0 (kq≤kj1)∧Aside0 (w'.heap[gb204]?=some (.cells #[(.slice A0_0 l0_0.length c0_0),(.slice A0_1 l0_1.length c0_1),(.slice A0_2 l0_2.length c0_2),(.slice A0_3 l0_3.length c0_3),(.slice A0_4 l0_4.length c0_4)] 26 (0,0)))∧Aside0 (Below w.heap.size w w'))
    case atStart=>exact ⟨(0),(by first|rfl|(simp;done)|(simp [*];done)),H',⟨Nat.le_refl _⟩,⟨by (with_reducible repeat (first|refine blk_drewN ?_ _|refine blk_drew ?_|refine blk_alloc ?_ _));exact BK204.out⟩,⟨by repeat (first|(with_reducible first|exact HB.out|apply below_alloc|apply pw_below_drewN|apply below_drew1|refine below_set ?_ GE204.out)|exact HB.out)⟩⟩
    case round =>
     clear H'
     try clear c1
     try clear p2
     try clear c5
     try clear c7
     try clear c8
     try clear c8b0
     try clear c8b1
     try clear c9
     try clear c9b0
     try clear c9b1
     try clear c15
     try clear hcz10_0
     try clear hcz10_1
     try clear hcz10_2
     try clear hcz10_3
     try clear hcz10_4
     try clear hcz11_0
     try clear hcz11_1
     try clear hcz11_2
     try clear hcz11_3
     try clear hcz11_4
     try clear hcz12_0
     try clear hcz12_1
     try clear hcz12_2
     try clear hcz12_3
     try clear hcz12_4
     try clear hcz13_0
     try clear hcz13_1
     try clear hcz13_2
     try clear hcz13_3
     try clear hcz13_4
     try clear hcz14_0
     try clear hcz14_1
     try clear hcz14_2
     try clear hcz14_3
     try clear hcz14_4
     try clear hfz10_0
     try clear hfz10_1
     try clear hfz10_2
     try clear hfz10_3
     try clear hfz10_4
     try clear hfz11_0
     try clear hfz11_1
     try clear hfz11_2
     try clear hfz11_3
     try clear hfz11_4
     try clear hfz12_0
     try clear hfz12_1
     try clear hfz12_2
     try clear hfz12_3
     try clear hfz12_4
     try clear hfz13_0
     try clear hfz13_1
     try clear hfz13_2
     try clear hfz13_3
     try clear hfz13_4
     try clear hfz14_0
     try clear hfz14_1
     try clear hfz14_2
     try clear hfz14_3
     try clear hfz14_4
     try clear p2
     obtain ⟨x3_2,rfl,HA,HK2,BK204,HB⟩:=hrel
     cases gk with
     | zero=>exact absurd HA.out (by simp [spec_StoreOk.l0])
     | succ k2 =>
      have H:=HA.out
      clear HA
      simp only [spec_StoreOk.l0] at H
      by_cases c16:x3_2<3
      ·rw [if_pos c16] at H
       have c16b0:decide (x3_2<3)=true:=decide_eq_true c16
       clear c16
       by_cases c17:0≤x3_2
       ·rw [if_pos c17] at H
        have c17b0:decide (0≤x3_2)=true:=decide_eq_true c17
        clear c17
        by_cases c18:x3_2<(l0_3.length:Int)
        ·rw [if_pos c18] at H
         have c18b0:decide (x3_2<(l0_3.length:Int))=true:=decide_eq_true c18
         clear c18
         by_cases c19:(rd l0_3 x3_2)<0
         ·rw [if_pos c19] at H
          have c19b0:decide ((rd l0_3 x3_2)<0)=true:=decide_eq_true c19
          clear c19
          obtain rfl:=Option.some.inj H
          have hcz20_0:wr.cell? ⟨gb204,0,none⟩=some (.slice A0_0 l0_0.length c0_0):=(blk_cell BK204.out 0).trans rfl
          have hcz20_1:wr.cell? ⟨gb204,1,none⟩=some (.slice A0_1 l0_1.length c0_1):=(blk_cell BK204.out 1).trans rfl
          have hcz20_2:wr.cell? ⟨gb204,2,none⟩=some (.slice A0_2 l0_2.length c0_2):=(blk_cell BK204.out 2).trans rfl
          have hcz20_3:wr.cell? ⟨gb204,3,none⟩=some (.slice A0_3 l0_3.length c0_3):=(blk_cell BK204.out 3).trans rfl
          have hcz20_4:wr.cell? ⟨gb204,4,none⟩=some (.slice A0_4 l0_4.length c0_4):=(blk_cell BK204.out 4).trans rfl
          have hfz20_0:=blk_frozen BK204.out 0
          have hfz20_1:=blk_frozen BK204.out 1
          have hfz20_2:=blk_frozen BK204.out 2
          have hfz20_3:=blk_frozen BK204.out 3
          have hfz20_4:=blk_frozen BK204.out 4
          have p207:0≤(x3_2:Int):=of_decide_eq_true (by first|(with_reducible assumption)|assumption)
          have q207:x3_2<(l0_3.length:Int):=of_decide_eq_true (by first|(with_reducible assumption)|assumption)
          obtain ⟨ad207,e207,hx207_0⟩:=Kd.at_int HR0_3.out x3_2 p207 q207
          cases e207
          replace hx207_0:=(HB.out.cell (World.block_lt_of_cell? w _ hx207_0)).trans hx207_0
          replace p207:=eq_true p207
          replace q207:=eq_true q207
          go_wp2
          repeat (go_quiet (fail);try go_wp2)
          go_ret
          exact ⟨by first|rfl|(simp [errW_none,errW_some] <;> rfl)|(simp [*,errW_none,errW_some] <;> rfl),by repeat (first|(with_reducible first|exact HB.out|apply below_alloc|apply pw_below_drewN|apply below_drew1|refine below_set ?_ GE204.out)|exact HB.out)⟩
         ·rw [if_neg c19] at H
          have c19b0:decide ((rd l0_3 x3_2)<0)=false:=decide_eq_false c19
          clear c19
          by_cases c21:x3_2<(l0_2.length:Int)
          ·rw [if_pos c21] at H
           have c21b0:decide (x3_2<(l0_2.length:Int))=true:=decide_eq_true c21
           clear c21
           by_cases c22:(rd l0_3 x3_2) > (rd l0_2 x3_2)
           ·rw [if_pos c22] at H
            have c22b0:decide ((rd l0_2 x3_2)<(rd l0_3 x3_2))=true:=decide_eq_true c22
            clear c22
            obtain rfl:=Option.some.inj H
            have hcz23_0:wr.cell? ⟨gb204,0,none⟩=some (.slice A0_0 l0_0.length c0_0):=(blk_cell BK204.out 0).trans rfl
            have hcz23_1:wr.cell? ⟨gb204,1,none⟩=some (.slice A0_1 l0_1.length c0_1):=(blk_cell BK204.out 1).trans rfl
            have hcz23_2:wr.cell? ⟨gb204,2,none⟩=some (.slice A0_2 l0_2.length c0_2):=(blk_cell BK204.out 2).trans rfl
            have hcz23_3:wr.cell? ⟨gb204,3,none⟩=some (.slice A0_3 l0_3.length c0_3):=(blk_cell BK204.out 3).trans rfl
            have hcz23_4:wr.cell? ⟨gb204,4,none⟩=some (.slice A0_4 l0_4.length c0_4):=(blk_cell BK204.out 4).trans rfl
            have hfz23_0:=blk_frozen BK204.out 0
            have hfz23_1:=blk_frozen BK204.out 1
            have hfz23_2:=blk_frozen BK204.out 2
            have hfz23_3:=blk_frozen BK204.out 3
            have hfz23_4:=blk_frozen BK204.out 4
            have p207:0≤(x3_2:Int):=of_decide_eq_true (by first|(with_reducible assumption)|assumption)
            have q207:x3_2<(l0_3.length:Int):=of_decide_eq_true (by first|(with_reducible assumption)|assumption)
            obtain ⟨ad207,e207,hx207_0⟩:=Kd.at_int HR0_3.out x3_2 p207 q207
            cases e207
            replace hx207_0:=(HB.out.cell (World.block_lt_of_cell? w _ hx207_0)).trans hx207_0
            replace p207:=eq_true p207
            replace q207:=eq_true q207
            have p208:0≤(x3_2:Int):=of_decide_eq_true (by first|(with_reducible assumption)|assumption)
            have q208:x3_2<(l0_3.length:Int):=of_decide_eq_true (by first|(with_reducible assumption)|assumption)
            obtain ⟨ad208,e208,hx208_0⟩:=Kd.at_int HR0_3.out x3_2 p208 q208
            obtain rfl:ad207=ad208:=(by injection e208)
            replace hx208_0:=(HB.out.cell (World.block_lt_of_cell? w _ hx208_0)).trans hx208_0
            replace p208:=eq_true p208
            replace q208:=eq_true q208
            have p209:0≤(x3_2:Int):=of_decide_eq_true (by first|(with_reducible assumption)|assumption)
            have q209:x3_2<(l0_2.length:Int):=of_decide_eq_true (by first|(with_reducible assumption)|assumption)
            obtain ⟨ad209,e209,hx209_0⟩:=Kd.at_int HR0_2.out x3_2 p209 q209
            cases e209
            replace hx209_0:=(HB.out.cell (World.block_lt_of_cell? w _ hx209_0)).trans hx209_0
            replace p209:=eq_true p209
            replace q209:=eq_true q209
            go_wp2
            repeat (go_quiet (fail);try go_wp2)
            go_ret
            exact ⟨by first|rfl|(simp [errW_none,errW_some] <;> rfl)|(simp [*,errW_none,errW_some] <;> rfl),by repeat (first|(with_reducible first|exact HB.out|apply below_alloc|apply pw_below_drewN|apply below_drew1|refine below_set ?_ GE204.out)|exact HB.out)⟩
           ·rw [if_neg c22] at H
            have c22b0:decide ((rd l0_2 x3_2)<(rd l0_3 x3_2))=false:=decide_eq_false c22
            clear c22
            by_cases c24:(rd l0_2 x3_2) > 1000
            ·rw [if_pos c24] at H
             have c24b0:decide (1000<(rd l0_2 x3_2))=true:=decide_eq_true c24
             clear c24
             obtain rfl:=Option.some.inj H
             have hcz25_0:wr.cell? ⟨gb204,0,none⟩=some (.slice A0_0 l0_0.length c0_0):=(blk_cell BK204.out 0).trans rfl
             have hcz25_1:wr.cell? ⟨gb204,1,none⟩=some (.slice A0_1 l0_1.length c0_1):=(blk_cell BK204.out 1).trans rfl
             have hcz25_2:wr.cell? ⟨gb204,2,none⟩=some (.slice A0_2 l0_2.length c0_2):=(blk_cell BK204.out 2).trans rfl
             have hcz25_3:wr.cell? ⟨gb204,3,none⟩=some (.slice A0_3 l0_3.length c0_3):=(blk_cell BK204.out 3).trans rfl
             have hcz25_4:wr.cell? ⟨gb204,4,none⟩=some (.slice A0_4 l0_4.length c0_4):=(blk_cell BK204.out 4).trans rfl
             have hfz25_0:=blk_frozen BK204.out 0
             have hfz25_1:=blk_frozen BK204.out 1
             have hfz25_2:=blk_frozen BK204.out 2
             have hfz25_3:=blk_frozen BK204.out 3
             have hfz25_4:=blk_frozen BK204.out 4
             have p207:0≤(x3_2:Int):=of_decide_eq_true (by first|(with_reducible assumption)|assumption)
             have q207:x3_2<(l0_3.length:Int):=of_decide_eq_true (by first|(with_reducible assumption)|assumption)
             obtain ⟨ad207,e207,hx207_0⟩:=Kd.at_int HR0_3.out x3_2 p207 q207
             cases e207
             replace hx207_0:=(HB.out.cell (World.block_lt_of_cell? w _ hx207_0)).trans hx207_0
             replace p207:=eq_true p207
             replace q207:=eq_true q207
             have p208:0≤(x3_2:Int):=of_decide_eq_true (by first|(with_reducible assumption)|assumption)
             have q208:x3_2<(l0_3.length:Int):=of_decide_eq_true (by first|(with_reducible assumption)|assumption)
             obtain ⟨ad208,e208,hx208_0⟩:=Kd.at_int HR0_3.out x3_2 p208 q208
             obtain rfl:ad207=ad208:=(by injection e208)
             replace hx208_0:=(HB.out.cell (World.block_lt_of_cell? w _ hx208_0)).trans hx208_0
             replace p208:=eq_true p208
             replace q208:=eq_true q208
             have p209:0≤(x3_2:Int):=of_decide_eq_true (by first|(with_reducible assumption)|assumption)
             have q209:x3_2<(l0_2.length:Int):=of_decide_eq_true (by first|(with_reducible assumption)|assumption)
             obtain ⟨ad209,e209,hx209_0⟩:=Kd.at_int HR0_2.out x3_2 p209 q209
             cases e209
             replace hx209_0:=(HB.out.cell (World.block_lt_of_cell? w _ hx209_0)).trans hx209_0
             replace p209:=eq_true p209
             replace q209:=eq_true q209
             have p210:0≤(x3_2:Int):=of_decide_eq_true (by first|(with_reducible assumption)|assumption)
             have q210:x3_2<(l0_2.length:Int):=of_decide_eq_true (by first|(with_reducible assumption)|assumption)
             obtain ⟨ad210,e210,hx210_0⟩:=Kd.at_int HR0_2.out x3_2 p210 q210
             obtain rfl:ad209=ad210:=(by injection e210)
             replace hx210_0:=(HB.out.cell (World.block_lt_of_cell? w _ hx210_0)).trans hx210_0
             replace p210:=eq_true p210
             replace q210:=eq_true q210
             go_wp2
             repeat (go_quiet (fail);try go_wp2)
             go_ret
             exact ⟨by first|rfl|(simp [errW_none,errW_some] <;> rfl)|(simp [*,errW_none,errW_some] <;> rfl),by repeat (first|(with_reducible first|exact HB.out|apply below_alloc|apply pw_below_drewN|apply below_drew1|refine below_set ?_ GE204.out)|exact HB.out)⟩
            ·rw [if_neg c24] at H
             have c24b0:decide (1000<(rd l0_2 x3_2))=false:=decide_eq_false c24
             clear c24
             by_cases c26:x3_2<(l0_4.length:Int)
             ·rw [if_pos c26] at H
              have c26b0:decide (x3_2<(l0_4.length:Int))=true:=decide_eq_true c26
              clear c26
              by_cases c27:(rd l0_4 x3_2)<0
              ·rw [if_pos c27] at H
               have c27b0:decide ((rd l0_4 x3_2)<0)=true:=decide_eq_true c27
               clear c27
               obtain rfl:=Option.some.inj H
               have hcz28_0:wr.cell? ⟨gb204,0,none⟩=some (.slice A0_0 l0_0.length c0_0):=(blk_cell BK204.out 0).trans rfl
               have hcz28_1:wr.cell? ⟨gb204,1,none⟩=some (.slice A0_1 l0_1.length c0_1):=(blk_cell BK204.out 1).trans rfl
               have hcz28_2:wr.cell? ⟨gb204,2,none⟩=some (.slice A0_2 l0_2.length c0_2):=(blk_cell BK204.out 2).trans rfl
               have hcz28_3:wr.cell? ⟨gb204,3,none⟩=some (.slice A0_3 l0_3.length c0_3):=(blk_cell BK204.out 3).trans rfl
               have hcz28_4:wr.cell? ⟨gb204,4,none⟩=some (.slice A0_4 l0_4.length c0_4):=(blk_cell BK204.out 4).trans rfl
               have hfz28_0:=blk_frozen BK204.out 0
               have hfz28_1:=blk_frozen BK204.out 1
               have hfz28_2:=blk_frozen BK204.out 2
               have hfz28_3:=blk_frozen BK204.out 3
               have hfz28_4:=blk_frozen BK204.out 4
               have p207:0≤(x3_2:Int):=of_decide_eq_true (by first|(with_reducible assumption)|assumption)
               have q207:x3_2<(l0_3.length:Int):=of_decide_eq_true (by first|(with_reducible assumption)|assumption)
               obtain ⟨ad207,e207,hx207_0⟩:=Kd.at_int HR0_3.out x3_2 p207 q207
               cases e207
               replace hx207_0:=(HB.out.cell (World.block_lt_of_cell? w _ hx207_0)).trans hx207_0
               replace p207:=eq_true p207
               replace q207:=eq_true q207
               have p208:0≤(x3_2:Int):=of_decide_eq_true (by first|(with_reducible assumption)|assumption)
               have q208:x3_2<(l0_3.length:Int):=of_decide_eq_true (by first|(with_reducible assumption)|assumption)
               obtain ⟨ad208,e208,hx208_0⟩:=Kd.at_int HR0_3.out x3_2 p208 q208
               obtain rfl:ad207=ad208:=(by injection e208)
               replace hx208_0:=(HB.out.cell (World.block_lt_of_cell? w _ hx208_0)).trans hx208_0
               replace p208:=eq_true p208
               replace q208:=eq_true q208
               have p209:0≤(x3_2:Int):=of_decide_eq_true (by first|(with_reducible assumption)|assumption)
               have q209:x3_2<(l0_2.length:Int):=of_decide_eq_true (by first|(with_reducible assumption)|assumption)
               obtain ⟨ad209,e209,hx209_0⟩:=Kd.at_int HR0_2.out x3_2 p209 q209
               cases e209
               replace hx209_0:=(HB.out.cell (World.block_lt_of_cell? w _ hx209_0)).trans hx209_0
               replace p209:=eq_true p209
               replace q209:=eq_true q209
               have p210:0≤(x3_2:Int):=of_decide_eq_true (by first|(with_reducible assumption)|assumption)
               have q210:x3_2<(l0_2.length:Int):=of_decide_eq_true (by first|(with_reducible assumption)|assumption)
               obtain ⟨ad210,e210,hx210_0⟩:=Kd.at_int HR0_2.out x3_2 p210 q210
               obtain rfl:ad209=ad210:=(by injection e210)
               replace hx210_0:=(HB.out.cell (World.block_lt_of_cell? w _ hx210_0)).trans hx210_0
               replace p210:=eq_true p210
               replace q210:=eq_true q210
               have p211:0≤(x3_2:Int):=of_decide_eq_true (by first|(with_reducible assumption)|assumption)
               have q211:x3_2<(l0_4.length:Int):=of_decide_eq_true (by first|(with_reducible assumption)|assumption)
               obtain ⟨ad211,e211,hx211_0⟩:=Kd.at_int HR0_4.out x3_2 p211 q211
               cases e211
               replace hx211_0:=(HB.out.cell (World.block_lt_of_cell? w _ hx211_0)).trans hx211_0
               replace p211:=eq_true p211
               replace q211:=eq_true q211
               go_wp2
               repeat (go_quiet (fail);try go_wp2)
               go_ret
               exact ⟨by first|rfl|(simp [errW_none,errW_some] <;> rfl)|(simp [*,errW_none,errW_some] <;> rfl),by repeat (first|(with_reducible first|exact HB.out|apply below_alloc|apply pw_below_drewN|apply below_drew1|refine below_set ?_ GE204.out)|exact HB.out)⟩
              ·rw [if_neg c27] at H
               have c27b0:decide ((rd l0_4 x3_2)<0)=false:=decide_eq_false c27
               clear c27
               by_cases c29:(rd l0_4 x3_2) > 100
               ·rw [if_pos c29] at H
                have c29b0:decide (100<(rd l0_4 x3_2))=true:=decide_eq_true c29
                clear c29
                obtain rfl:=Option.some.inj H
                have hcz30_0:wr.cell? ⟨gb204,0,none⟩=some (.slice A0_0 l0_0.length c0_0):=(blk_cell BK204.out 0).trans rfl
                have hcz30_1:wr.cell? ⟨gb204,1,none⟩=some (.slice A0_1 l0_1.length c0_1):=(blk_cell BK204.out 1).trans rfl
                have hcz30_2:wr.cell? ⟨gb204,2,none⟩=some (.slice A0_2 l0_2.length c0_2):=(blk_cell BK204.out 2).trans rfl
                have hcz30_3:wr.cell? ⟨gb204,3,none⟩=some (.slice A0_3 l0_3.length c0_3):=(blk_cell BK204.out 3).trans rfl
                have hcz30_4:wr.cell? ⟨gb204,4,none⟩=some (.slice A0_4 l0_4.length c0_4):=(blk_cell BK204.out 4).trans rfl
                have hfz30_0:=blk_frozen BK204.out 0
                have hfz30_1:=blk_frozen BK204.out 1
                have hfz30_2:=blk_frozen BK204.out 2
                have hfz30_3:=blk_frozen BK204.out 3
                have hfz30_4:=blk_frozen BK204.out 4
                have p207:0≤(x3_2:Int):=of_decide_eq_true (by first|(with_reducible assumption)|assumption)
                have q207:x3_2<(l0_3.length:Int):=of_decide_eq_true (by first|(with_reducible assumption)|assumption)
                obtain ⟨ad207,e207,hx207_0⟩:=Kd.at_int HR0_3.out x3_2 p207 q207
                cases e207
                replace hx207_0:=(HB.out.cell (World.block_lt_of_cell? w _ hx207_0)).trans hx207_0
                replace p207:=eq_true p207
                replace q207:=eq_true q207
                have p208:0≤(x3_2:Int):=of_decide_eq_true (by first|(with_reducible assumption)|assumption)
                have q208:x3_2<(l0_3.length:Int):=of_decide_eq_true (by first|(with_reducible assumption)|assumption)
                obtain ⟨ad208,e208,hx208_0⟩:=Kd.at_int HR0_3.out x3_2 p208 q208
                obtain rfl:ad207=ad208:=(by injection e208)
                replace hx208_0:=(HB.out.cell (World.block_lt_of_cell? w _ hx208_0)).trans hx208_0
                replace p208:=eq_true p208
                replace q208:=eq_true q208
                have p209:0≤(x3_2:Int):=of_decide_eq_true (by first|(with_reducible assumption)|assumption)
                have q209:x3_2<(l0_2.length:Int):=of_decide_eq_true (by first|(with_reducible assumption)|assumption)
                obtain ⟨ad209,e209,hx209_0⟩:=Kd.at_int HR0_2.out x3_2 p209 q209
                cases e209
                replace hx209_0:=(HB.out.cell (World.block_lt_of_cell? w _ hx209_0)).trans hx209_0
                replace p209:=eq_true p209
                replace q209:=eq_true q209
                have p210:0≤(x3_2:Int):=of_decide_eq_true (by first|(with_reducible assumption)|assumption)
                have q210:x3_2<(l0_2.length:Int):=of_decide_eq_true (by first|(with_reducible assumption)|assumption)
                obtain ⟨ad210,e210,hx210_0⟩:=Kd.at_int HR0_2.out x3_2 p210 q210
                obtain rfl:ad209=ad210:=(by injection e210)
                replace hx210_0:=(HB.out.cell (World.block_lt_of_cell? w _ hx210_0)).trans hx210_0
                replace p210:=eq_true p210
                replace q210:=eq_true q210
                have p211:0≤(x3_2:Int):=of_decide_eq_true (by first|(with_reducible assumption)|assumption)
                have q211:x3_2<(l0_4.length:Int):=of_decide_eq_true (by first|(with_reducible assumption)|assumption)
                obtain ⟨ad211,e211,hx211_0⟩:=Kd.at_int HR0_4.out x3_2 p211 q211
                cases e211
                replace hx211_0:=(HB.out.cell (World.block_lt_of_cell? w _ hx211_0)).trans hx211_0
                replace p211:=eq_true p211
                replace q211:=eq_true q211
                have p212:0≤(x3_2:Int):=of_decide_eq_true (by first|(with_reducible assumption)|assumption)
                have q212:x3_2<(l0_4.length:Int):=of_decide_eq_true (by first|(with_reducible assumption)|assumption)
                obtain ⟨ad212,e212,hx212_0⟩:=Kd.at_int HR0_4.out x3_2 p212 q212
                obtain rfl:ad211=ad212:=(by injection e212)
                replace hx212_0:=(HB.out.cell (World.block_lt_of_cell? w _ hx212_0)).trans hx212_0
                replace p212:=eq_true p212
                replace q212:=eq_true q212
                go_wp2
                repeat (go_quiet (fail);try go_wp2)
                go_ret
                exact ⟨by first|rfl|(simp [errW_none,errW_some] <;> rfl)|(simp [*,errW_none,errW_some] <;> rfl),by repeat (first|(with_reducible first|exact HB.out|apply below_alloc|apply pw_below_drewN|apply below_drew1|refine below_set ?_ GE204.out)|exact HB.out)⟩
               ·rw [if_neg c29] at H
                have c29b0:decide (100<(rd l0_4 x3_2))=false:=decide_eq_false c29
                clear c29
                have H':=Ak H
                clear H
                have hcz31_0:wr.cell? ⟨gb204,0,none⟩=some (.slice A0_0 l0_0.length c0_0):=(blk_cell BK204.out 0).trans rfl
                have hcz31_1:wr.cell? ⟨gb204,1,none⟩=some (.slice A0_1 l0_1.length c0_1):=(blk_cell BK204.out 1).trans rfl
                have hcz31_2:wr.cell? ⟨gb204,2,none⟩=some (.slice A0_2 l0_2.length c0_2):=(blk_cell BK204.out 2).trans rfl
                have hcz31_3:wr.cell? ⟨gb204,3,none⟩=some (.slice A0_3 l0_3.length c0_3):=(blk_cell BK204.out 3).trans rfl
                have hcz31_4:wr.cell? ⟨gb204,4,none⟩=some (.slice A0_4 l0_4.length c0_4):=(blk_cell BK204.out 4).trans rfl
                have hfz31_0:=blk_frozen BK204.out 0
                have hfz31_1:=blk_frozen BK204.out 1
                have hfz31_2:=blk_frozen BK204.out 2
                have hfz31_3:=blk_frozen BK204.out 3
                have hfz31_4:=blk_frozen BK204.out 4
                have p207:0≤(x3_2:Int):=of_decide_eq_true (by first|(with_reducible assumption)|assumption)
                have q207:x3_2<(l0_3.length:Int):=of_decide_eq_true (by first|(with_reducible assumption)|assumption)
                obtain ⟨ad207,e207,hx207_0⟩:=Kd.at_int HR0_3.out x3_2 p207 q207
                cases e207
                replace hx207_0:=(HB.out.cell (World.block_lt_of_cell? w _ hx207_0)).trans hx207_0
                replace p207:=eq_true p207
                replace q207:=eq_true q207
                have p208:0≤(x3_2:Int):=of_decide_eq_true (by first|(with_reducible assumption)|assumption)
                have q208:x3_2<(l0_3.length:Int):=of_decide_eq_true (by first|(with_reducible assumption)|assumption)
                obtain ⟨ad208,e208,hx208_0⟩:=Kd.at_int HR0_3.out x3_2 p208 q208
                obtain rfl:ad207=ad208:=(by injection e208)
                replace hx208_0:=(HB.out.cell (World.block_lt_of_cell? w _ hx208_0)).trans hx208_0
                replace p208:=eq_true p208
                replace q208:=eq_true q208
                have p209:0≤(x3_2:Int):=of_decide_eq_true (by first|(with_reducible assumption)|assumption)
                have q209:x3_2<(l0_2.length:Int):=of_decide_eq_true (by first|(with_reducible assumption)|assumption)
                obtain ⟨ad209,e209,hx209_0⟩:=Kd.at_int HR0_2.out x3_2 p209 q209
                cases e209
                replace hx209_0:=(HB.out.cell (World.block_lt_of_cell? w _ hx209_0)).trans hx209_0
                replace p209:=eq_true p209
                replace q209:=eq_true q209
                have p210:0≤(x3_2:Int):=of_decide_eq_true (by first|(with_reducible assumption)|assumption)
                have q210:x3_2<(l0_2.length:Int):=of_decide_eq_true (by first|(with_reducible assumption)|assumption)
                obtain ⟨ad210,e210,hx210_0⟩:=Kd.at_int HR0_2.out x3_2 p210 q210
                obtain rfl:ad209=ad210:=(by injection e210)
                replace hx210_0:=(HB.out.cell (World.block_lt_of_cell? w _ hx210_0)).trans hx210_0
                replace p210:=eq_true p210
                replace q210:=eq_true q210
                have p211:0≤(x3_2:Int):=of_decide_eq_true (by first|(with_reducible assumption)|assumption)
                have q211:x3_2<(l0_4.length:Int):=of_decide_eq_true (by first|(with_reducible assumption)|assumption)
                obtain ⟨ad211,e211,hx211_0⟩:=Kd.at_int HR0_4.out x3_2 p211 q211
                cases e211
                replace hx211_0:=(HB.out.cell (World.block_lt_of_cell? w _ hx211_0)).trans hx211_0
                replace p211:=eq_true p211
                replace q211:=eq_true q211
                have p212:0≤(x3_2:Int):=of_decide_eq_true (by first|(with_reducible assumption)|assumption)
                have q212:x3_2<(l0_4.length:Int):=of_decide_eq_true (by first|(with_reducible assumption)|assumption)
                obtain ⟨ad212,e212,hx212_0⟩:=Kd.at_int HR0_4.out x3_2 p212 q212
                obtain rfl:ad211=ad212:=(by injection e212)
                replace hx212_0:=(HB.out.cell (World.block_lt_of_cell? w _ hx212_0)).trans hx212_0
                replace p212:=eq_true p212
                replace q212:=eq_true q212
                go_wp2
                repeat (go_quiet (fail);try go_wp2)
                go_roundg k2
                case measure=>have:=HJ1.out;have:=HK2.out;omega
                case rel=>exact ⟨(wrap64 (x3_2 + 1)),(by first|rfl|(simp;done)|(simp [*];done)),H',⟨by have:=HJ1.out;have:=HK2.out;omega⟩,⟨by (with_reducible repeat (first|refine blk_drewN ?_ _|refine blk_drew ?_|refine blk_alloc ?_ _));exact BK204.out⟩,⟨by repeat (first|(with_reducible first|exact HB.out|apply below_alloc|apply pw_below_drewN|apply below_drew1|refine below_set ?_ GE204.out)|exact HB.out)⟩⟩
             ·rw [if_neg c26] at H
              exact absurd H (by simp)
          ·rw [if_neg c21] at H
           exact absurd H (by simp)
        ·rw [if_neg c18] at H
         exact absurd H (by simp)
       ·rw [if_neg c17] at H
        exact absurd H (by simp)
      ·rw [if_neg c16] at H
       have c16b0:decide (x3_2<3)=false:=decide_eq_false c16
       clear c16
       obtain rfl:=Option.some.inj H
       go_wp2
       repeat (go_quiet (fail);try go_wp2)
       go_ret
       exact ⟨by first|rfl|(simp [errW_none,errW_some] <;> rfl)|(simp [*,errW_none,errW_some] <;> rfl),by repeat (first|(with_reducible first|exact HB.out|apply below_alloc|apply pw_below_drewN|apply below_drew1|refine below_set ?_ GE204.out)|exact HB.out)⟩
def impl_TextOk.l0:Nat→ByteArray→Int→Int→Option (Bool)
 | 0,_,_,_=>none
 | k + 1,x0,x6,x7=>if x7<x6 then (if 0≤x7 then (if x7<(x0.size:Int) then (if (bt x0 x7)<97 then (if (bt x0 x7)<48 then (if (bt x0 x7)=46 then (impl_TextOk.l0 k x0 x6 (wrap64 (x7 + 1))) else (some false)) else (if (bt x0 x7) > 57 then (if (bt x0 x7)=46 then (impl_TextOk.l0 k x0 x6 (wrap64 (x7 + 1))) else (some false)) else (impl_TextOk.l0 k x0 x6 (wrap64 (x7 + 1))))) else (if (bt x0 x7) > 122 then (if (bt x0 x7)<48 then (if (bt x0 x7)=46 then (impl_TextOk.l0 k x0 x6 (wrap64 (x7 + 1))) else (some false)) else (if (bt x0 x7) > 57 then (if (bt x0 x7)=46 then (impl_TextOk.l0 k x0 x6 (wrap64 (x7 + 1))) else (some false)) else (impl_TextOk.l0 k x0 x6 (wrap64 (x7 + 1))))) else (impl_TextOk.l0 k x0 x6 (wrap64 (x7 + 1))))) else (none)) else (none)) else (some (decide ((x0.size:Int)≤48)))
def impl_TextOk.f (k:Nat) (a0:ByteArray):Option (Bool):=impl_TextOk.l0 k a0 (a0.size:Int) 0
theorem impl_TextOk.calls (k:Nat) (a0:ByteArray) (r:Bool) (w:World) (h:impl_TextOk.f k a0=some r) :
  Calls Try.prog 57 #[.string a0] w fun e w'=>e = .returned (.bool r)∧Drawn0 w w':=by
 have H:(impl_TextOk.l0 k a0 (a0.size:Int) 0)=some r:=h
 clear h
 have H':=Ak H
 clear H
 go_enter Try.func57,Try.ntmps57
 go_wp2
 go_loopg [7] k (fun kq v7 w'=>∃ (x7_1:Int),v7 = .int .i64 x7_1∧Aside0 (impl_TextOk.l0 kq a0 (a0.size:Int) x7_1=some r)∧Aside0 (kq≤k)∧Drawn0 w w')
 case atStart=>exact ⟨(0),(by first|rfl|(simp;done)|(simp [*];done)),H',⟨Nat.le_refl _⟩,by repeat (first|exact Drawn0.refl _|apply Drawn0.step)⟩
 case round =>
  clear H'
  obtain ⟨x7_1,rfl,HA,HK1,⟨m1,rfl⟩⟩:=hrel
  cases gk with
  | zero=>exact absurd HA.out (by simp [impl_TextOk.l0])
  | succ k1 =>
   have H:=HA.out
   clear HA
   simp only [impl_TextOk.l0] at H
   by_cases c2:x7_1<(a0.size:Int)
   ·rw [if_pos c2] at H
    have c2b0:decide (x7_1<(a0.size:Int))=true:=decide_eq_true c2
    clear c2
    by_cases c3:0≤x7_1
    ·rw [if_pos c3] at H
     have c3b0:decide (0≤x7_1)=true:=decide_eq_true c3
     clear c3
     by_cases c4:x7_1<(a0.size:Int)
     ·rw [if_pos c4] at H
      have c4b0:decide (x7_1<(a0.size:Int))=true:=decide_eq_true c4
      clear c4
      by_cases c6:(bt a0 x7_1)<97
      ·rw [if_pos c6] at H
       have c6b0:decide ((bt a0 x7_1)<97)=true:=decide_eq_true c6
       clear c6
       by_cases c7:(bt a0 x7_1)<48
       ·rw [if_pos c7] at H
        have c7b0:decide ((bt a0 x7_1)<48)=true:=decide_eq_true c7
        clear c7
        by_cases c8:(bt a0 x7_1)=46
        ·rw [if_pos c8] at H
         have c8b0:((bt a0 x7_1) == 46)=true:=beq_iff_eq.mpr c8
         have c8b1:((bt a0 x7_1) != 46)=false:=bne_eq_false_iff_eq.mpr c8
         clear c8
         have H':=Ak H
         clear H
         have p5:0≤(x7_1:Int):=of_decide_eq_true (by first|(with_reducible assumption)|assumption)
         have q5:x7_1<(a0.size:Int):=of_decide_eq_true (by first|(with_reducible assumption)|assumption)
         have hx5:=bt_at a0 x7_1
         replace p5:=eq_true p5
         replace q5:=eq_true q5
         go_wp2
         go_roundg k1
         case measure=>have:=HK1.out;omega
         case rel=>exact ⟨(wrap64 (x7_1 + 1)),(by first|rfl|(simp;done)|(simp [*];done)),H',⟨by have:=HK1.out;omega⟩,by repeat (first|exact Drawn0.refl _|apply Drawn0.step)⟩
        ·rw [if_neg c8] at H
         have c8b0:((bt a0 x7_1) == 46)=false:=beq_eq_false_iff_ne.mpr c8
         have c8b1:((bt a0 x7_1) != 46)=true:=bne_iff_ne.mpr c8
         obtain rfl:=Option.some.inj H
         have p5:0≤(x7_1:Int):=of_decide_eq_true (by first|(with_reducible assumption)|assumption)
         have q5:x7_1<(a0.size:Int):=of_decide_eq_true (by first|(with_reducible assumption)|assumption)
         have hx5:=bt_at a0 x7_1
         replace p5:=eq_true p5
         replace q5:=eq_true q5
         go_wp2
         go_ret
         exact ⟨by first|rfl|(simp;done)|(simp [*];done),by repeat (first|exact Drawn0.refl _|apply Drawn0.step)⟩
       ·rw [if_neg c7] at H
        have c7b0:decide ((bt a0 x7_1)<48)=false:=decide_eq_false c7
        clear c7
        by_cases c9:(bt a0 x7_1) > 57
        ·rw [if_pos c9] at H
         have c9b0:decide (57<(bt a0 x7_1))=true:=decide_eq_true c9
         clear c9
         by_cases c10:(bt a0 x7_1)=46
         ·rw [if_pos c10] at H
          have c10b0:((bt a0 x7_1) == 46)=true:=beq_iff_eq.mpr c10
          have c10b1:((bt a0 x7_1) != 46)=false:=bne_eq_false_iff_eq.mpr c10
          clear c10
          have H':=Ak H
          clear H
          have p5:0≤(x7_1:Int):=of_decide_eq_true (by first|(with_reducible assumption)|assumption)
          have q5:x7_1<(a0.size:Int):=of_decide_eq_true (by first|(with_reducible assumption)|assumption)
          have hx5:=bt_at a0 x7_1
          replace p5:=eq_true p5
          replace q5:=eq_true q5
          go_wp2
          go_roundg k1
          case measure=>have:=HK1.out;omega
          case rel=>exact ⟨(wrap64 (x7_1 + 1)),(by first|rfl|(simp;done)|(simp [*];done)),H',⟨by have:=HK1.out;omega⟩,by repeat (first|exact Drawn0.refl _|apply Drawn0.step)⟩
         ·rw [if_neg c10] at H
          have c10b0:((bt a0 x7_1) == 46)=false:=beq_eq_false_iff_ne.mpr c10
          have c10b1:((bt a0 x7_1) != 46)=true:=bne_iff_ne.mpr c10
          obtain rfl:=Option.some.inj H
          have p5:0≤(x7_1:Int):=of_decide_eq_true (by first|(with_reducible assumption)|assumption)
          have q5:x7_1<(a0.size:Int):=of_decide_eq_true (by first|(with_reducible assumption)|assumption)
          have hx5:=bt_at a0 x7_1
          replace p5:=eq_true p5
          replace q5:=eq_true q5
          go_wp2
          go_ret
          exact ⟨by first|rfl|(simp;done)|(simp [*];done),by repeat (first|exact Drawn0.refl _|apply Drawn0.step)⟩
        ·rw [if_neg c9] at H
         have c9b0:decide (57<(bt a0 x7_1))=false:=decide_eq_false c9
         clear c9
         have H':=Ak H
         clear H
         have p5:0≤(x7_1:Int):=of_decide_eq_true (by first|(with_reducible assumption)|assumption)
         have q5:x7_1<(a0.size:Int):=of_decide_eq_true (by first|(with_reducible assumption)|assumption)
         have hx5:=bt_at a0 x7_1
         replace p5:=eq_true p5
         replace q5:=eq_true q5
         go_wp2
         go_roundg k1
         case measure=>have:=HK1.out;omega
         case rel=>exact ⟨(wrap64 (x7_1 + 1)),(by first|rfl|(simp;done)|(simp [*];done)),H',⟨by have:=HK1.out;omega⟩,by repeat (first|exact Drawn0.refl _|apply Drawn0.step)⟩
      ·rw [if_neg c6] at H
       have c6b0:decide ((bt a0 x7_1)<97)=false:=decide_eq_false c6
       clear c6
       by_cases c11:(bt a0 x7_1) > 122
       ·rw [if_pos c11] at H
        have c11b0:decide (122<(bt a0 x7_1))=true:=decide_eq_true c11
        clear c11
        by_cases c12:(bt a0 x7_1)<48
        ·rw [if_pos c12] at H
         have c12b0:decide ((bt a0 x7_1)<48)=true:=decide_eq_true c12
         clear c12
         by_cases c13:(bt a0 x7_1)=46
         ·rw [if_pos c13] at H
          have c13b0:((bt a0 x7_1) == 46)=true:=beq_iff_eq.mpr c13
          have c13b1:((bt a0 x7_1) != 46)=false:=bne_eq_false_iff_eq.mpr c13
          clear c13
          have H':=Ak H
          clear H
          have p5:0≤(x7_1:Int):=of_decide_eq_true (by first|(with_reducible assumption)|assumption)
          have q5:x7_1<(a0.size:Int):=of_decide_eq_true (by first|(with_reducible assumption)|assumption)
          have hx5:=bt_at a0 x7_1
          replace p5:=eq_true p5
          replace q5:=eq_true q5
          go_wp2
          go_roundg k1
          case measure=>have:=HK1.out;omega
          case rel=>exact ⟨(wrap64 (x7_1 + 1)),(by first|rfl|(simp;done)|(simp [*];done)),H',⟨by have:=HK1.out;omega⟩,by repeat (first|exact Drawn0.refl _|apply Drawn0.step)⟩
         ·rw [if_neg c13] at H
          have c13b0:((bt a0 x7_1) == 46)=false:=beq_eq_false_iff_ne.mpr c13
          have c13b1:((bt a0 x7_1) != 46)=true:=bne_iff_ne.mpr c13
          obtain rfl:=Option.some.inj H
          have p5:0≤(x7_1:Int):=of_decide_eq_true (by first|(with_reducible assumption)|assumption)
          have q5:x7_1<(a0.size:Int):=of_decide_eq_true (by first|(with_reducible assumption)|assumption)
          have hx5:=bt_at a0 x7_1
          replace p5:=eq_true p5
          replace q5:=eq_true q5
          go_wp2
          go_ret
          exact ⟨by first|rfl|(simp;done)|(simp [*];done),by repeat (first|exact Drawn0.refl _|apply Drawn0.step)⟩
        ·rw [if_neg c12] at H
         have c12b0:decide ((bt a0 x7_1)<48)=false:=decide_eq_false c12
         clear c12
         by_cases c14:(bt a0 x7_1) > 57
         ·rw [if_pos c14] at H
          have c14b0:decide (57<(bt a0 x7_1))=true:=decide_eq_true c14
          clear c14
          by_cases c15:(bt a0 x7_1)=46
          ·rw [if_pos c15] at H
           have c15b0:((bt a0 x7_1) == 46)=true:=beq_iff_eq.mpr c15
           have c15b1:((bt a0 x7_1) != 46)=false:=bne_eq_false_iff_eq.mpr c15
           clear c15
           have H':=Ak H
           clear H
           have p5:0≤(x7_1:Int):=of_decide_eq_true (by first|(with_reducible assumption)|assumption)
           have q5:x7_1<(a0.size:Int):=of_decide_eq_true (by first|(with_reducible assumption)|assumption)
           have hx5:=bt_at a0 x7_1
           replace p5:=eq_true p5
           replace q5:=eq_true q5
           go_wp2
           go_roundg k1
           case measure=>have:=HK1.out;omega
           case rel=>exact ⟨(wrap64 (x7_1 + 1)),(by first|rfl|(simp;done)|(simp [*];done)),H',⟨by have:=HK1.out;omega⟩,by repeat (first|exact Drawn0.refl _|apply Drawn0.step)⟩
          ·rw [if_neg c15] at H
           have c15b0:((bt a0 x7_1) == 46)=false:=beq_eq_false_iff_ne.mpr c15
           have c15b1:((bt a0 x7_1) != 46)=true:=bne_iff_ne.mpr c15
           obtain rfl:=Option.some.inj H
           have p5:0≤(x7_1:Int):=of_decide_eq_true (by first|(with_reducible assumption)|assumption)
           have q5:x7_1<(a0.size:Int):=of_decide_eq_true (by first|(with_reducible assumption)|assumption)
           have hx5:=bt_at a0 x7_1
           replace p5:=eq_true p5
           replace q5:=eq_true q5
           go_wp2
           go_ret
           exact ⟨by first|rfl|(simp;done)|(simp [*];done),by repeat (first|exact Drawn0.refl _|apply Drawn0.step)⟩
         ·rw [if_neg c14] at H
          have c14b0:decide (57<(bt a0 x7_1))=false:=decide_eq_false c14
          clear c14
          have H':=Ak H
          clear H
          have p5:0≤(x7_1:Int):=of_decide_eq_true (by first|(with_reducible assumption)|assumption)
          have q5:x7_1<(a0.size:Int):=of_decide_eq_true (by first|(with_reducible assumption)|assumption)
          have hx5:=bt_at a0 x7_1
          replace p5:=eq_true p5
          replace q5:=eq_true q5
          go_wp2
          go_roundg k1
          case measure=>have:=HK1.out;omega
          case rel=>exact ⟨(wrap64 (x7_1 + 1)),(by first|rfl|(simp;done)|(simp [*];done)),H',⟨by have:=HK1.out;omega⟩,by repeat (first|exact Drawn0.refl _|apply Drawn0.step)⟩
       ·rw [if_neg c11] at H
        have c11b0:decide (122<(bt a0 x7_1))=false:=decide_eq_false c11
        clear c11
        have H':=Ak H
        clear H
        have p5:0≤(x7_1:Int):=of_decide_eq_true (by first|(with_reducible assumption)|assumption)
        have q5:x7_1<(a0.size:Int):=of_decide_eq_true (by first|(with_reducible assumption)|assumption)
        have hx5:=bt_at a0 x7_1
        replace p5:=eq_true p5
        replace q5:=eq_true q5
        go_wp2
        go_roundg k1
        case measure=>have:=HK1.out;omega
        case rel=>exact ⟨(wrap64 (x7_1 + 1)),(by first|rfl|(simp;done)|(simp [*];done)),H',⟨by have:=HK1.out;omega⟩,by repeat (first|exact Drawn0.refl _|apply Drawn0.step)⟩
     ·rw [if_neg c4] at H
      exact absurd H (by simp)
    ·rw [if_neg c3] at H
     exact absurd H (by simp)
   ·rw [if_neg c2] at H
    have c2b0:decide (x7_1<(a0.size:Int))=false:=decide_eq_false c2
    clear c2
    obtain rfl:=Option.some.inj H
    go_wp2
    go_ret
    exact ⟨by first|rfl|(simp;done)|(simp [*];done),by repeat (first|exact Drawn0.refl _|apply Drawn0.step)⟩
mutual
def impl_StoreOk.j0:Nat→Bool→List ByteArray→List ByteArray→List Int→List Int→List Int→Option (Bool)
 | 0,_,_,_,_,_,_=>none
 | k + 1,x32,x594000,x594001,x594002,x594003,x594004=>if x32=true then (some false) else (impl_StoreOk.l0 k 0 x594000 x594001 x594002 x594003 x594004)
def impl_StoreOk.l0:Nat→Int→List ByteArray→List ByteArray→List Int→List Int→List Int→Option (Bool)
 | 0,_,_,_,_,_,_=>none
 | k + 1,x33,x594000,x594001,x594002,x594003,x594004=>if x33<3 then (if 0≤x33 then (if x33<(x594000.length:Int) then ((impl_TextOk.f k (rdOf ByteArray.empty x594000 x33)).bind fun t595=>(if t595=true then (if x33<(x594001.length:Int) then ((impl_TextOk.f k (rdOf ByteArray.empty x594001 x33)).bind fun t597=>(if t597=true then (impl_StoreOk.l0 k (wrap64 (x33 + 1)) x594000 x594001 x594002 x594003 x594004) else (some false))) else (none)) else (some false))) else (none)) else (none)) else (impl_StoreOk.l1 k 0 x594000 x594001 x594002 x594003 x594004)
def impl_StoreOk.l1:Nat→Int→List ByteArray→List ByteArray→List Int→List Int→List Int→Option (Bool)
 | 0,_,_,_,_,_,_=>none
 | k + 1,x53,x594000,x594001,x594002,x594003,x594004=>if x53<3 then (if 0≤x53 then (if x53<(x594003.length:Int) then (if (rd x594003 x53)<0 then (some false) else (if x53<(x594002.length:Int) then (if (rd x594003 x53) > (rd x594002 x53) then (some false) else (if (rd x594002 x53) > 1000 then (some false) else (if x53<(x594004.length:Int) then (if (rd x594004 x53)<0 then (some false) else (if (rd x594004 x53) > 100 then (some false) else (impl_StoreOk.l1 k (wrap64 (x53 + 1)) x594000 x594001 x594002 x594003 x594004))) else (none)))) else (none))) else (none)) else (none)) else (some true)
end
def impl_StoreOk.f (k:Nat) (l0_0:List ByteArray) (l0_1:List ByteArray) (l0_2:List Int) (l0_3:List Int) (l0_4:List Int):Option (Bool):=if (l0_0.length:Int)=3 then (if (l0_1.length:Int)=3 then (if (l0_2.length:Int)=3 then (if (l0_3.length:Int)=3 then (impl_StoreOk.j0 k ((l0_4.length:Int) != 3) l0_0 l0_1 l0_2 l0_3 l0_4) else (impl_StoreOk.j0 k true l0_0 l0_1 l0_2 l0_3 l0_4)) else (impl_StoreOk.j0 k true l0_0 l0_1 l0_2 l0_3 l0_4)) else (impl_StoreOk.j0 k true l0_0 l0_1 l0_2 l0_3 l0_4)) else (impl_StoreOk.j0 k true l0_0 l0_1 l0_2 l0_3 l0_4)
theorem impl_StoreOk.calls (k:Nat) (A0_0:Option Addr) (c0_0:Nat) (l0_0:List ByteArray) (A0_1:Option Addr) (c0_1:Nat) (l0_1:List ByteArray) (A0_2:Option Addr) (c0_2:Nat) (l0_2:List Int) (A0_3:Option Addr) (c0_3:Nat) (l0_3:List Int) (A0_4:Option Addr) (c0_4:Nat) (l0_4:List Int) (r:Bool) (w:World) (hr0_0:Kd.C Kd.string w A0_0 l0_0.length l0_0) (hc0_0:l0_0.length≤c0_0) (hr0_1:Kd.C Kd.string w A0_1 l0_1.length l0_1) (hc0_1:l0_1.length≤c0_1) (hr0_2:Kd.C (Kd.int .i64) w A0_2 l0_2.length l0_2) (hc0_2:l0_2.length≤c0_2) (hr0_3:Kd.C (Kd.int .i64) w A0_3 l0_3.length l0_3) (hc0_3:l0_3.length≤c0_3) (hr0_4:Kd.C (Kd.int .i64) w A0_4 l0_4.length l0_4) (hc0_4:l0_4.length≤c0_4) (h:impl_StoreOk.f k l0_0 l0_1 l0_2 l0_3 l0_4=some r) :
  Calls Try.prog 23 #[.agg #[.slice A0_0 l0_0.length c0_0,.slice A0_1 l0_1.length c0_1,.slice A0_2 l0_2.length c0_2,.slice A0_3 l0_3.length c0_3,.slice A0_4 l0_4.length c0_4]] w fun e w'=>e = .returned (.bool r)∧Below w.heap.size w w':=by
 have hu26:=Try.underlying26
 have HR0_0:=Ak hr0_0
 have HC0_0:=Ak hc0_0
 clear hr0_0 hc0_0
 have HR0_1:=Ak hr0_1
 have HC0_1:=Ak hc0_1
 clear hr0_1 hc0_1
 have HR0_2:=Ak hr0_2
 have HC0_2:=Ak hc0_2
 clear hr0_2 hc0_2
 have HR0_3:=Ak hr0_3
 have HC0_3:=Ak hc0_3
 clear hr0_3 hc0_3
 have HR0_4:=Ak hr0_4
 have HC0_4:=Ak hc0_4
 clear hr0_4 hc0_4
 have HB:=Ak (Below.refl w.heap.size w)
 have H:(if (l0_0.length:Int)=3 then (if (l0_1.length:Int)=3 then (if (l0_2.length:Int)=3 then (if (l0_3.length:Int)=3 then (impl_StoreOk.j0 k ((l0_4.length:Int) != 3) l0_0 l0_1 l0_2 l0_3 l0_4) else (impl_StoreOk.j0 k true l0_0 l0_1 l0_2 l0_3 l0_4)) else (impl_StoreOk.j0 k true l0_0 l0_1 l0_2 l0_3 l0_4)) else (impl_StoreOk.j0 k true l0_0 l0_1 l0_2 l0_3 l0_4)) else (impl_StoreOk.j0 k true l0_0 l0_1 l0_2 l0_3 l0_4))=some r:=h
 clear h
 have HC2:=Ak H
 clear H
 go_enter Try.func23,Try.ntmps23
 go_upto_region 1 with (first|((with_reducible refine gate_dst (N:=1) rfl ?_);(try (refine gate_guard (by rfl) ?_;dsimp only));refine box_event ?hg (N:=1) ?hd (cs:=#[.slice A0_0 l0_0.length c0_0,.slice A0_1 l0_1.length c0_1,.slice A0_2 l0_2.length c0_2,.slice A0_3 l0_3.length c0_3,.slice A0_4 l0_4.length c0_4]) (t:=26) ?hr ?_;(case hd=>rfl);(case hg=>rfl);(case hr=>first|(go_simp;done)|(go_simp;rfl));intro gb593 hg w3 hbox hb;have n0_:=Ak (below_step (by repeat (first|(with_reducible first|exact HB.out|apply below_alloc|apply pw_below_drewN|apply below_drew1)|exact HB.out)) hb);have n1_:=Ak (hbox);have n2_:=Ak ((by rw [hg];exact (below_size (by repeat (first|(with_reducible first|exact HB.out|apply below_alloc|apply pw_below_drewN|apply below_drew1)|exact HB.out))):w.heap.size≤gb593));have n3_:=Ak ((by rw [hg];exact (below_size (by repeat (first|(with_reducible first|exact HB.out|apply below_alloc|apply pw_below_drewN|apply below_drew1)|exact HB.out))):w.heap.size≤gb593));clear HB;have HB:=n0_;have BK593:=n1_;have GW593:=n2_;have GE593:=n3_;clear n0_ n1_ n2_ n3_;clear hb hbox hg))
 repeat (go_quiet (first|((with_reducible refine gate_dst (N:=1) rfl ?_);(try (refine gate_guard (by rfl) ?_;dsimp only));refine box_event ?hg (N:=1) ?hd (cs:=#[.slice A0_0 l0_0.length c0_0,.slice A0_1 l0_1.length c0_1,.slice A0_2 l0_2.length c0_2,.slice A0_3 l0_3.length c0_3,.slice A0_4 l0_4.length c0_4]) (t:=26) ?hr ?_;(case hd=>rfl);(case hg=>rfl);(case hr=>first|(go_simp;done)|(go_simp;rfl));intro gb593 hg w3 hbox hb;have n0_:=Ak (below_step (by repeat (first|(with_reducible first|exact HB.out|apply below_alloc|apply pw_below_drewN|apply below_drew1)|exact HB.out)) hb);have n1_:=Ak (hbox);have n2_:=Ak ((by rw [hg];exact (below_size (by repeat (first|(with_reducible first|exact HB.out|apply below_alloc|apply pw_below_drewN|apply below_drew1)|exact HB.out))):w.heap.size≤gb593));have n3_:=Ak ((by rw [hg];exact (below_size (by repeat (first|(with_reducible first|exact HB.out|apply below_alloc|apply pw_below_drewN|apply below_drew1)|exact HB.out))):w.heap.size≤gb593));clear HB;have HB:=n0_;have BK593:=n1_;have GW593:=n2_;have GE593:=n3_;clear n0_ n1_ n2_ n3_;clear hb hbox hg));go_upto_region 1 with (first|((with_reducible refine gate_dst (N:=1) rfl ?_);(try (refine gate_guard (by rfl) ?_;dsimp only));refine box_event ?hg (N:=1) ?hd (cs:=#[.slice A0_0 l0_0.length c0_0,.slice A0_1 l0_1.length c0_1,.slice A0_2 l0_2.length c0_2,.slice A0_3 l0_3.length c0_3,.slice A0_4 l0_4.length c0_4]) (t:=26) ?hr ?_;(case hd=>rfl);(case hg=>rfl);(case hr=>first|(go_simp;done)|(go_simp;rfl));intro gb593 hg w3 hbox hb;have n0_:=Ak (below_step (by repeat (first|(with_reducible first|exact HB.out|apply below_alloc|apply pw_below_drewN|apply below_drew1)|exact HB.out)) hb);have n1_:=Ak (hbox);have n2_:=Ak ((by rw [hg];exact (below_size (by repeat (first|(with_reducible first|exact HB.out|apply below_alloc|apply pw_below_drewN|apply below_drew1)|exact HB.out))):w.heap.size≤gb593));have n3_:=Ak ((by rw [hg];exact (below_size (by repeat (first|(with_reducible first|exact HB.out|apply below_alloc|apply pw_below_drewN|apply below_drew1)|exact HB.out))):w.heap.size≤gb593));clear HB;have HB:=n0_;have BK593:=n1_;have GW593:=n2_;have GE593:=n3_;clear n0_ n1_ n2_ n3_;clear hb hbox hg)))
 (try simp only [Act.put,zzA,zzB,zzC])
 go_cut [32] (fun v32 wc=>∃ (kq:Nat) (x32_1:Bool),v32 = .bool x32_1∧Aside0 (impl_StoreOk.j0 kq x32_1 l0_0 l0_1 l0_2 l0_3 l0_4=some r)∧Aside0 (kq≤k)∧Aside0 (wc.heap[gb593]?=some (.cells #[(.slice A0_0 l0_0.length c0_0),(.slice A0_1 l0_1.length c0_1),(.slice A0_2 l0_2.length c0_2),(.slice A0_3 l0_3.length c0_3),(.slice A0_4 l0_4.length c0_4)] 26 (0,0)))∧Aside0 (Below w.heap.size w wc))
 case first =>
  have H:=HC2.out
  clear HC2
  by_cases c4:(l0_0.length:Int)=3
  ·rw [if_pos c4] at H
   have c4b0:((l0_0.length:Int) == 3)=true:=beq_iff_eq.mpr c4
   have c4b1:((l0_0.length:Int) != 3)=false:=bne_eq_false_iff_eq.mpr c4
   clear c4
   (first|rw [c4b0]|(simp only [i64_w,i32_w];rw [c4b0])|skip)
   by_cases c5:(l0_1.length:Int)=3
   ·rw [if_pos c5] at H
    have c5b0:((l0_1.length:Int) == 3)=true:=beq_iff_eq.mpr c5
    have c5b1:((l0_1.length:Int) != 3)=false:=bne_eq_false_iff_eq.mpr c5
    clear c5
    by_cases c6:(l0_2.length:Int)=3
    ·rw [if_pos c6] at H
     have c6b0:((l0_2.length:Int) == 3)=true:=beq_iff_eq.mpr c6
     have c6b1:((l0_2.length:Int) != 3)=false:=bne_eq_false_iff_eq.mpr c6
     clear c6
     by_cases c7:(l0_3.length:Int)=3
     ·rw [if_pos c7] at H
      have c7b0:((l0_3.length:Int) == 3)=true:=beq_iff_eq.mpr c7
      have c7b1:((l0_3.length:Int) != 3)=false:=bne_eq_false_iff_eq.mpr c7
      clear c7
      have H':=Ak H
      clear H
      have hcz8_0:w3.cell? ⟨gb593,0,none⟩=some (.slice A0_0 l0_0.length c0_0):=(blk_cell BK593.out 0).trans rfl
      have hcz8_1:w3.cell? ⟨gb593,1,none⟩=some (.slice A0_1 l0_1.length c0_1):=(blk_cell BK593.out 1).trans rfl
      have hcz8_2:w3.cell? ⟨gb593,2,none⟩=some (.slice A0_2 l0_2.length c0_2):=(blk_cell BK593.out 2).trans rfl
      have hcz8_3:w3.cell? ⟨gb593,3,none⟩=some (.slice A0_3 l0_3.length c0_3):=(blk_cell BK593.out 3).trans rfl
      have hcz8_4:w3.cell? ⟨gb593,4,none⟩=some (.slice A0_4 l0_4.length c0_4):=(blk_cell BK593.out 4).trans rfl
      have hfz8_0:=blk_frozen BK593.out 0
      have hfz8_1:=blk_frozen BK593.out 1
      have hfz8_2:=blk_frozen BK593.out 2
      have hfz8_3:=blk_frozen BK593.out 3
      have hfz8_4:=blk_frozen BK593.out 4
      go_wp2
      repeat (go_quiet (fail);try go_wp2)
      go_meet
      case rel=>exact ⟨_,(((l0_4.length:Int) != 3)),(by first|rfl|(simp;done)|(simp [*];done)),H',⟨by first|omega|exact Nat.le_refl _⟩,⟨by (with_reducible repeat (first|refine blk_drewN ?_ _|refine blk_drew ?_|refine blk_alloc ?_ _));exact BK593.out⟩,⟨by repeat (first|(with_reducible first|exact HB.out|apply below_alloc|apply pw_below_drewN|apply below_drew1|refine below_set ?_ GE593.out)|exact HB.out)⟩⟩
     ·rw [if_neg c7] at H
      have c7b0:((l0_3.length:Int) == 3)=false:=beq_eq_false_iff_ne.mpr c7
      have c7b1:((l0_3.length:Int) != 3)=true:=bne_iff_ne.mpr c7
      have H':=Ak H
      clear H
      have hcz9_0:w3.cell? ⟨gb593,0,none⟩=some (.slice A0_0 l0_0.length c0_0):=(blk_cell BK593.out 0).trans rfl
      have hcz9_1:w3.cell? ⟨gb593,1,none⟩=some (.slice A0_1 l0_1.length c0_1):=(blk_cell BK593.out 1).trans rfl
      have hcz9_2:w3.cell? ⟨gb593,2,none⟩=some (.slice A0_2 l0_2.length c0_2):=(blk_cell BK593.out 2).trans rfl
      have hcz9_3:w3.cell? ⟨gb593,3,none⟩=some (.slice A0_3 l0_3.length c0_3):=(blk_cell BK593.out 3).trans rfl
      have hcz9_4:w3.cell? ⟨gb593,4,none⟩=some (.slice A0_4 l0_4.length c0_4):=(blk_cell BK593.out 4).trans rfl
      have hfz9_0:=blk_frozen BK593.out 0
      have hfz9_1:=blk_frozen BK593.out 1
      have hfz9_2:=blk_frozen BK593.out 2
      have hfz9_3:=blk_frozen BK593.out 3
      have hfz9_4:=blk_frozen BK593.out 4
      go_wp2
      repeat (go_quiet (fail);try go_wp2)
      go_meet
      case rel=>exact ⟨_,(true),(by first|rfl|(simp;done)|(simp [*];done)),H',⟨by first|omega|exact Nat.le_refl _⟩,⟨by (with_reducible repeat (first|refine blk_drewN ?_ _|refine blk_drew ?_|refine blk_alloc ?_ _));exact BK593.out⟩,⟨by repeat (first|(with_reducible first|exact HB.out|apply below_alloc|apply pw_below_drewN|apply below_drew1|refine below_set ?_ GE593.out)|exact HB.out)⟩⟩
    ·rw [if_neg c6] at H
     have c6b0:((l0_2.length:Int) == 3)=false:=beq_eq_false_iff_ne.mpr c6
     have c6b1:((l0_2.length:Int) != 3)=true:=bne_iff_ne.mpr c6
     have H':=Ak H
     clear H
     have hcz10_0:w3.cell? ⟨gb593,0,none⟩=some (.slice A0_0 l0_0.length c0_0):=(blk_cell BK593.out 0).trans rfl
     have hcz10_1:w3.cell? ⟨gb593,1,none⟩=some (.slice A0_1 l0_1.length c0_1):=(blk_cell BK593.out 1).trans rfl
     have hcz10_2:w3.cell? ⟨gb593,2,none⟩=some (.slice A0_2 l0_2.length c0_2):=(blk_cell BK593.out 2).trans rfl
     have hcz10_3:w3.cell? ⟨gb593,3,none⟩=some (.slice A0_3 l0_3.length c0_3):=(blk_cell BK593.out 3).trans rfl
     have hcz10_4:w3.cell? ⟨gb593,4,none⟩=some (.slice A0_4 l0_4.length c0_4):=(blk_cell BK593.out 4).trans rfl
     have hfz10_0:=blk_frozen BK593.out 0
     have hfz10_1:=blk_frozen BK593.out 1
     have hfz10_2:=blk_frozen BK593.out 2
     have hfz10_3:=blk_frozen BK593.out 3
     have hfz10_4:=blk_frozen BK593.out 4
     go_wp2
     repeat (go_quiet (fail);try go_wp2)
     go_meet
     case rel=>exact ⟨_,(true),(by first|rfl|(simp;done)|(simp [*];done)),H',⟨by first|omega|exact Nat.le_refl _⟩,⟨by (with_reducible repeat (first|refine blk_drewN ?_ _|refine blk_drew ?_|refine blk_alloc ?_ _));exact BK593.out⟩,⟨by repeat (first|(with_reducible first|exact HB.out|apply below_alloc|apply pw_below_drewN|apply below_drew1|refine below_set ?_ GE593.out)|exact HB.out)⟩⟩
   ·rw [if_neg c5] at H
    have c5b0:((l0_1.length:Int) == 3)=false:=beq_eq_false_iff_ne.mpr c5
    have c5b1:((l0_1.length:Int) != 3)=true:=bne_iff_ne.mpr c5
    have H':=Ak H
    clear H
    have hcz11_0:w3.cell? ⟨gb593,0,none⟩=some (.slice A0_0 l0_0.length c0_0):=(blk_cell BK593.out 0).trans rfl
    have hcz11_1:w3.cell? ⟨gb593,1,none⟩=some (.slice A0_1 l0_1.length c0_1):=(blk_cell BK593.out 1).trans rfl
    have hcz11_2:w3.cell? ⟨gb593,2,none⟩=some (.slice A0_2 l0_2.length c0_2):=(blk_cell BK593.out 2).trans rfl
    have hcz11_3:w3.cell? ⟨gb593,3,none⟩=some (.slice A0_3 l0_3.length c0_3):=(blk_cell BK593.out 3).trans rfl
    have hcz11_4:w3.cell? ⟨gb593,4,none⟩=some (.slice A0_4 l0_4.length c0_4):=(blk_cell BK593.out 4).trans rfl
    have hfz11_0:=blk_frozen BK593.out 0
    have hfz11_1:=blk_frozen BK593.out 1
    have hfz11_2:=blk_frozen BK593.out 2
    have hfz11_3:=blk_frozen BK593.out 3
    have hfz11_4:=blk_frozen BK593.out 4
    go_wp2
    repeat (go_quiet (fail);try go_wp2)
    go_meet
    case rel=>exact ⟨_,(true),(by first|rfl|(simp;done)|(simp [*];done)),H',⟨by first|omega|exact Nat.le_refl _⟩,⟨by (with_reducible repeat (first|refine blk_drewN ?_ _|refine blk_drew ?_|refine blk_alloc ?_ _));exact BK593.out⟩,⟨by repeat (first|(with_reducible first|exact HB.out|apply below_alloc|apply pw_below_drewN|apply below_drew1|refine below_set ?_ GE593.out)|exact HB.out)⟩⟩
  ·rw [if_neg c4] at H
   have c4b0:((l0_0.length:Int) == 3)=false:=beq_eq_false_iff_ne.mpr c4
   have c4b1:((l0_0.length:Int) != 3)=true:=bne_iff_ne.mpr c4
   (first|rw [c4b0]|(simp only [i64_w,i32_w];rw [c4b0])|skip)
   have H':=Ak H
   clear H
   have hcz12_0:w3.cell? ⟨gb593,0,none⟩=some (.slice A0_0 l0_0.length c0_0):=(blk_cell BK593.out 0).trans rfl
   have hcz12_1:w3.cell? ⟨gb593,1,none⟩=some (.slice A0_1 l0_1.length c0_1):=(blk_cell BK593.out 1).trans rfl
   have hcz12_2:w3.cell? ⟨gb593,2,none⟩=some (.slice A0_2 l0_2.length c0_2):=(blk_cell BK593.out 2).trans rfl
   have hcz12_3:w3.cell? ⟨gb593,3,none⟩=some (.slice A0_3 l0_3.length c0_3):=(blk_cell BK593.out 3).trans rfl
   have hcz12_4:w3.cell? ⟨gb593,4,none⟩=some (.slice A0_4 l0_4.length c0_4):=(blk_cell BK593.out 4).trans rfl
   have hfz12_0:=blk_frozen BK593.out 0
   have hfz12_1:=blk_frozen BK593.out 1
   have hfz12_2:=blk_frozen BK593.out 2
   have hfz12_3:=blk_frozen BK593.out 3
   have hfz12_4:=blk_frozen BK593.out 4
   go_wp2
   repeat (go_quiet (fail);try go_wp2)
   go_meet
   case rel=>exact ⟨_,(true),(by first|rfl|(simp;done)|(simp [*];done)),H',⟨by first|omega|exact Nat.le_refl _⟩,⟨by (with_reducible repeat (first|refine blk_drewN ?_ _|refine blk_drew ?_|refine blk_alloc ?_ _));exact BK593.out⟩,⟨by repeat (first|(with_reducible first|exact HB.out|apply below_alloc|apply pw_below_drewN|apply below_drew1|refine below_set ?_ GE593.out)|exact HB.out)⟩⟩
 case rest =>
  clear HC2
  try clear c2
  try clear p2
  try clear c4
  try clear c4b0
  try clear c4b1
  try clear c5
  try clear c5b0
  try clear c5b1
  try clear c6
  try clear c6b0
  try clear c6b1
  try clear c7
  try clear c7b0
  try clear c7b1
  try clear hcz10_0
  try clear hcz10_1
  try clear hcz10_2
  try clear hcz10_3
  try clear hcz10_4
  try clear hcz11_0
  try clear hcz11_1
  try clear hcz11_2
  try clear hcz11_3
  try clear hcz11_4
  try clear hcz12_0
  try clear hcz12_1
  try clear hcz12_2
  try clear hcz12_3
  try clear hcz12_4
  try clear hcz8_0
  try clear hcz8_1
  try clear hcz8_2
  try clear hcz8_3
  try clear hcz8_4
  try clear hcz9_0
  try clear hcz9_1
  try clear hcz9_2
  try clear hcz9_3
  try clear hcz9_4
  try clear hfz10_0
  try clear hfz10_1
  try clear hfz10_2
  try clear hfz10_3
  try clear hfz10_4
  try clear hfz11_0
  try clear hfz11_1
  try clear hfz11_2
  try clear hfz11_3
  try clear hfz11_4
  try clear hfz12_0
  try clear hfz12_1
  try clear hfz12_2
  try clear hfz12_3
  try clear hfz12_4
  try clear hfz8_0
  try clear hfz8_1
  try clear hfz8_2
  try clear hfz8_3
  try clear hfz8_4
  try clear hfz9_0
  try clear hfz9_1
  try clear hfz9_2
  try clear hfz9_3
  try clear hfz9_4
  obtain ⟨kq,x32_1,rfl,HA,HJ1,BK593,HB⟩:=hcut
  cases kq with
  | zero=>exact absurd HA.out (by simp [impl_StoreOk.j0])
  | succ kj1 =>
   have H:=HA.out
   clear HA
   simp only [impl_StoreOk.j0] at H
   by_cases c13:x32_1=true
   ·subst c13
    have H1:(some false)=some r:=by rw [if_pos rfl] at H;exact H
    clear H
    have H:=H1
    clear H1
    obtain rfl:=Option.some.inj H
    go_wp2
    repeat (go_quiet (fail);try go_wp2)
    go_ret
    exact ⟨by first|rfl|(simp [errW_none,errW_some] <;> rfl)|(simp [*,errW_none,errW_some] <;> rfl),by repeat (first|(with_reducible first|exact HB.out|apply below_alloc|apply pw_below_drewN|apply below_drew1|refine below_set ?_ GE593.out)|exact HB.out)⟩
   ·replace c13:=Bool.eq_false_iff.mpr c13
    subst c13
    have H1:(impl_StoreOk.l0 kj1 0 l0_0 l0_1 l0_2 l0_3 l0_4)=some r:=by rw [if_neg (show ¬ (false=true) by decide)] at H;exact H
    clear H
    have H:=H1
    clear H1
    have H':=Ak H
    clear H
    go_wp2
    repeat (go_quiet (fail);try go_wp2)
    go_loopg [33] kj1 (fun kq v33 w'=>∃ (x33_2:Int),v33 = .int .i64 x33_2∧Aside0 (impl_StoreOk.l0 kq x33_2 l0_0 l0_1 l0_2 l0_3 l0_4=some r)∧Aside0 (kq≤kj1)∧Aside0 (w'.heap[gb593]?=some (.cells #[(.slice A0_0 l0_0.length c0_0),(.slice A0_1 l0_1.length c0_1),(.slice A0_2 l0_2.length c0_2),(.slice A0_3 l0_3.length c0_3),(.slice A0_4 l0_4.length c0_4)] 26 (0,0)))∧Aside0 (Below w.heap.size w w'))
    case atStart=>exact ⟨(0),(by first|rfl|(simp;done)|(simp [*];done)),H',⟨Nat.le_refl _⟩,⟨by (with_reducible repeat (first|refine blk_drewN ?_ _|refine blk_drew ?_|refine blk_alloc ?_ _));exact BK593.out⟩,⟨by repeat (first|(with_reducible first|exact HB.out|apply below_alloc|apply pw_below_drewN|apply below_drew1|refine below_set ?_ GE593.out)|exact HB.out)⟩⟩
    case round =>
     clear H'
     try clear c1
     try clear c2
     try clear p2
     try clear c4
     try clear c4b0
     try clear c4b1
     try clear c5
     try clear c5b0
     try clear c5b1
     try clear c6
     try clear c6b0
     try clear c6b1
     try clear c7
     try clear c7b0
     try clear c7b1
     try clear c13
     try clear hcz10_0
     try clear hcz10_1
     try clear hcz10_2
     try clear hcz10_3
     try clear hcz10_4
     try clear hcz11_0
     try clear hcz11_1
     try clear hcz11_2
     try clear hcz11_3
     try clear hcz11_4
     try clear hcz12_0
     try clear hcz12_1
     try clear hcz12_2
     try clear hcz12_3
     try clear hcz12_4
     try clear hcz8_0
     try clear hcz8_1
     try clear hcz8_2
     try clear hcz8_3
     try clear hcz8_4
     try clear hcz9_0
     try clear hcz9_1
     try clear hcz9_2
     try clear hcz9_3
     try clear hcz9_4
     try clear hfz10_0
     try clear hfz10_1
     try clear hfz10_2
     try clear hfz10_3
     try clear hfz10_4
     try clear hfz11_0
     try clear hfz11_1
     try clear hfz11_2
     try clear hfz11_3
     try clear hfz11_4
     try clear hfz12_0
     try clear hfz12_1
     try clear hfz12_2
     try clear hfz12_3
     try clear hfz12_4
     try clear hfz8_0
     try clear hfz8_1
     try clear hfz8_2
     try clear hfz8_3
     try clear hfz8_4
     try clear hfz9_0
     try clear hfz9_1
     try clear hfz9_2
     try clear hfz9_3
     try clear hfz9_4
     try clear p2
     obtain ⟨x33_2,rfl,HA,HK2,BK593,HB⟩:=hrel
     cases gk with
     | zero=>exact absurd HA.out (by simp [impl_StoreOk.l0])
     | succ k2 =>
      have H:=HA.out
      clear HA
      simp only [impl_StoreOk.l0] at H
      by_cases c14:x33_2<3
      ·rw [if_pos c14] at H
       have c14b0:decide (x33_2<3)=true:=decide_eq_true c14
       clear c14
       by_cases c15:0≤x33_2
       ·rw [if_pos c15] at H
        have c15b0:decide (0≤x33_2)=true:=decide_eq_true c15
        clear c15
        by_cases c16:x33_2<(l0_0.length:Int)
        ·rw [if_pos c16] at H
         have c16b0:decide (x33_2<(l0_0.length:Int))=true:=decide_eq_true c16
         clear c16
         replace H:=Option.bind_eq_some_iff.mp H
         obtain ⟨t595,A170,H⟩:=H
         replace H:(if t595=true then (if x33_2<(l0_1.length:Int) then ((impl_TextOk.f k2 (rdOf ByteArray.empty l0_1 x33_2)).bind fun t597=>(if t597=true then (impl_StoreOk.l0 k2 (wrap64 (x33_2 + 1)) l0_0 l0_1 l0_2 l0_3 l0_4) else (some false))) else (none)) else (some false))=some r:=H
         have A17:=Ak A170
         clear A170
         by_cases c18:t595=true
         ·subst c18
          have H1:(if x33_2<(l0_1.length:Int) then ((impl_TextOk.f k2 (rdOf ByteArray.empty l0_1 x33_2)).bind fun t597=>(if t597=true then (impl_StoreOk.l0 k2 (wrap64 (x33_2 + 1)) l0_0 l0_1 l0_2 l0_3 l0_4) else (some false))) else (none))=some r:=by rw [if_pos rfl] at H;exact H
          clear H
          have H:=H1
          clear H1
          by_cases c19:x33_2<(l0_1.length:Int)
          ·rw [if_pos c19] at H
           have c19b0:decide (x33_2<(l0_1.length:Int))=true:=decide_eq_true c19
           clear c19
           replace H:=Option.bind_eq_some_iff.mp H
           obtain ⟨t597,A200,H⟩:=H
           replace H:(if t597=true then (impl_StoreOk.l0 k2 (wrap64 (x33_2 + 1)) l0_0 l0_1 l0_2 l0_3 l0_4) else (some false))=some r:=H
           have A20:=Ak A200
           clear A200
           by_cases c21:t597=true
           ·subst c21
            have H1:(impl_StoreOk.l0 k2 (wrap64 (x33_2 + 1)) l0_0 l0_1 l0_2 l0_3 l0_4)=some r:=by rw [if_pos rfl] at H;exact H
            clear H
            have H:=H1
            clear H1
            have H':=Ak H
            clear H
            have hcz22_0:wr.cell? ⟨gb593,0,none⟩=some (.slice A0_0 l0_0.length c0_0):=(blk_cell BK593.out 0).trans rfl
            have hcz22_1:wr.cell? ⟨gb593,1,none⟩=some (.slice A0_1 l0_1.length c0_1):=(blk_cell BK593.out 1).trans rfl
            have hcz22_2:wr.cell? ⟨gb593,2,none⟩=some (.slice A0_2 l0_2.length c0_2):=(blk_cell BK593.out 2).trans rfl
            have hcz22_3:wr.cell? ⟨gb593,3,none⟩=some (.slice A0_3 l0_3.length c0_3):=(blk_cell BK593.out 3).trans rfl
            have hcz22_4:wr.cell? ⟨gb593,4,none⟩=some (.slice A0_4 l0_4.length c0_4):=(blk_cell BK593.out 4).trans rfl
            have hfz22_0:=blk_frozen BK593.out 0
            have hfz22_1:=blk_frozen BK593.out 1
            have hfz22_2:=blk_frozen BK593.out 2
            have hfz22_3:=blk_frozen BK593.out 3
            have hfz22_4:=blk_frozen BK593.out 4
            have p594:0≤(x33_2:Int):=of_decide_eq_true (by first|(with_reducible assumption)|assumption)
            have q594:x33_2<(l0_0.length:Int):=of_decide_eq_true (by first|(with_reducible assumption)|assumption)
            obtain ⟨ad594,e594,hx594_0⟩:=Kd.at_string HR0_0.out x33_2 p594 q594
            cases e594
            replace hx594_0:=(HB.out.cell (World.block_lt_of_cell? w _ hx594_0)).trans hx594_0
            replace p594:=eq_true p594
            replace q594:=eq_true q594
            go_wp2_with (first|(go_at_call 57;(with_reducible refine (impl_TextOk.calls k2 (rdOf ByteArray.empty l0_0 x33_2) true _ A17.out).mono ?_);rintro e w' ⟨rfl,⟨nd,rfl⟩⟩;(try first|exact ⟨rfl,_,World.drewN_drewN _ _ _⟩|exact ⟨rfl,_,Eq.trans (World.drewN_drewN _ _ _) (congrArg (World.drewN _) (Nat.add_assoc _ _ _))⟩);have p596:0≤(x33_2:Int):=of_decide_eq_true (by first|(with_reducible assumption)|assumption);have q596:x33_2<(l0_1.length:Int):=of_decide_eq_true (by first|(with_reducible assumption)|assumption);obtain ⟨ad596,e596,hx596_0⟩:=Kd.at_string HR0_1.out x33_2 p596 q596;cases e596;replace hx596_0:=(HB.out.cell (World.block_lt_of_cell? w _ hx596_0)).trans hx596_0;replace p596:=eq_true p596;replace q596:=eq_true q596)|(go_at_call 57;(with_reducible refine (impl_TextOk.calls k2 (rdOf ByteArray.empty l0_1 x33_2) true _ A20.out).mono ?_);rintro e w' ⟨rfl,⟨nd,rfl⟩⟩;(try first|exact ⟨rfl,_,World.drewN_drewN _ _ _⟩|exact ⟨rfl,_,Eq.trans (World.drewN_drewN _ _ _) (congrArg (World.drewN _) (Nat.add_assoc _ _ _))⟩)))
            repeat (go_quiet (first|(go_at_call 57;(with_reducible refine (impl_TextOk.calls k2 (rdOf ByteArray.empty l0_0 x33_2) true _ A17.out).mono ?_);rintro e w' ⟨rfl,⟨nd,rfl⟩⟩;(try first|exact ⟨rfl,_,World.drewN_drewN _ _ _⟩|exact ⟨rfl,_,Eq.trans (World.drewN_drewN _ _ _) (congrArg (World.drewN _) (Nat.add_assoc _ _ _))⟩);have p596:0≤(x33_2:Int):=of_decide_eq_true (by first|(with_reducible assumption)|assumption);have q596:x33_2<(l0_1.length:Int):=of_decide_eq_true (by first|(with_reducible assumption)|assumption);obtain ⟨ad596,e596,hx596_0⟩:=Kd.at_string HR0_1.out x33_2 p596 q596;cases e596;replace hx596_0:=(HB.out.cell (World.block_lt_of_cell? w _ hx596_0)).trans hx596_0;replace p596:=eq_true p596;replace q596:=eq_true q596)|(go_at_call 57;(with_reducible refine (impl_TextOk.calls k2 (rdOf ByteArray.empty l0_1 x33_2) true _ A20.out).mono ?_);rintro e w' ⟨rfl,⟨nd,rfl⟩⟩;(try first|exact ⟨rfl,_,World.drewN_drewN _ _ _⟩|exact ⟨rfl,_,Eq.trans (World.drewN_drewN _ _ _) (congrArg (World.drewN _) (Nat.add_assoc _ _ _))⟩)));try go_wp2_with (first|(go_at_call 57;(with_reducible refine (impl_TextOk.calls k2 (rdOf ByteArray.empty l0_0 x33_2) true _ A17.out).mono ?_);rintro e w' ⟨rfl,⟨nd,rfl⟩⟩;(try first|exact ⟨rfl,_,World.drewN_drewN _ _ _⟩|exact ⟨rfl,_,Eq.trans (World.drewN_drewN _ _ _) (congrArg (World.drewN _) (Nat.add_assoc _ _ _))⟩);have p596:0≤(x33_2:Int):=of_decide_eq_true (by first|(with_reducible assumption)|assumption);have q596:x33_2<(l0_1.length:Int):=of_decide_eq_true (by first|(with_reducible assumption)|assumption);obtain ⟨ad596,e596,hx596_0⟩:=Kd.at_string HR0_1.out x33_2 p596 q596;cases e596;replace hx596_0:=(HB.out.cell (World.block_lt_of_cell? w _ hx596_0)).trans hx596_0;replace p596:=eq_true p596;replace q596:=eq_true q596)|(go_at_call 57;(with_reducible refine (impl_TextOk.calls k2 (rdOf ByteArray.empty l0_1 x33_2) true _ A20.out).mono ?_);rintro e w' ⟨rfl,⟨nd,rfl⟩⟩;(try first|exact ⟨rfl,_,World.drewN_drewN _ _ _⟩|exact ⟨rfl,_,Eq.trans (World.drewN_drewN _ _ _) (congrArg (World.drewN _) (Nat.add_assoc _ _ _))⟩))))
            go_roundg k2
            case measure=>have:=HJ1.out;have:=HK2.out;omega
            case rel=>exact ⟨(wrap64 (x33_2 + 1)),(by first|rfl|(simp;done)|(simp [*];done)),H',⟨by have:=HJ1.out;have:=HK2.out;omega⟩,⟨by (with_reducible repeat (first|refine blk_drewN ?_ _|refine blk_drew ?_|refine blk_alloc ?_ _));exact BK593.out⟩,⟨by repeat (first|(with_reducible first|exact HB.out|apply below_alloc|apply pw_below_drewN|apply below_drew1|refine below_set ?_ GE593.out)|exact HB.out)⟩⟩
           ·replace c21:=Bool.eq_false_iff.mpr c21
            subst c21
            have H1:(some false)=some r:=by rw [if_neg (show ¬ (false=true) by decide)] at H;exact H
            clear H
            have H:=H1
            clear H1
            obtain rfl:=Option.some.inj H
            have hcz23_0:wr.cell? ⟨gb593,0,none⟩=some (.slice A0_0 l0_0.length c0_0):=(blk_cell BK593.out 0).trans rfl
            have hcz23_1:wr.cell? ⟨gb593,1,none⟩=some (.slice A0_1 l0_1.length c0_1):=(blk_cell BK593.out 1).trans rfl
            have hcz23_2:wr.cell? ⟨gb593,2,none⟩=some (.slice A0_2 l0_2.length c0_2):=(blk_cell BK593.out 2).trans rfl
            have hcz23_3:wr.cell? ⟨gb593,3,none⟩=some (.slice A0_3 l0_3.length c0_3):=(blk_cell BK593.out 3).trans rfl
            have hcz23_4:wr.cell? ⟨gb593,4,none⟩=some (.slice A0_4 l0_4.length c0_4):=(blk_cell BK593.out 4).trans rfl
            have hfz23_0:=blk_frozen BK593.out 0
            have hfz23_1:=blk_frozen BK593.out 1
            have hfz23_2:=blk_frozen BK593.out 2
            have hfz23_3:=blk_frozen BK593.out 3
            have hfz23_4:=blk_frozen BK593.out 4
            have p594:0≤(x33_2:Int):=of_decide_eq_true (by first|(with_reducible assumption)|assumption)
            have q594:x33_2<(l0_0.length:Int):=of_decide_eq_true (by first|(with_reducible assumption)|assumption)
            obtain ⟨ad594,e594,hx594_0⟩:=Kd.at_string HR0_0.out x33_2 p594 q594
            cases e594
            replace hx594_0:=(HB.out.cell (World.block_lt_of_cell? w _ hx594_0)).trans hx594_0
            replace p594:=eq_true p594
            replace q594:=eq_true q594
            go_wp2_with (first|(go_at_call 57;(with_reducible refine (impl_TextOk.calls k2 (rdOf ByteArray.empty l0_0 x33_2) true _ A17.out).mono ?_);rintro e w' ⟨rfl,⟨nd,rfl⟩⟩;(try first|exact ⟨rfl,_,World.drewN_drewN _ _ _⟩|exact ⟨rfl,_,Eq.trans (World.drewN_drewN _ _ _) (congrArg (World.drewN _) (Nat.add_assoc _ _ _))⟩);have p596:0≤(x33_2:Int):=of_decide_eq_true (by first|(with_reducible assumption)|assumption);have q596:x33_2<(l0_1.length:Int):=of_decide_eq_true (by first|(with_reducible assumption)|assumption);obtain ⟨ad596,e596,hx596_0⟩:=Kd.at_string HR0_1.out x33_2 p596 q596;cases e596;replace hx596_0:=(HB.out.cell (World.block_lt_of_cell? w _ hx596_0)).trans hx596_0;replace p596:=eq_true p596;replace q596:=eq_true q596)|(go_at_call 57;(with_reducible refine (impl_TextOk.calls k2 (rdOf ByteArray.empty l0_1 x33_2) false _ A20.out).mono ?_);rintro e w' ⟨rfl,⟨nd,rfl⟩⟩;(try first|exact ⟨rfl,_,World.drewN_drewN _ _ _⟩|exact ⟨rfl,_,Eq.trans (World.drewN_drewN _ _ _) (congrArg (World.drewN _) (Nat.add_assoc _ _ _))⟩)))
            repeat (go_quiet (first|(go_at_call 57;(with_reducible refine (impl_TextOk.calls k2 (rdOf ByteArray.empty l0_0 x33_2) true _ A17.out).mono ?_);rintro e w' ⟨rfl,⟨nd,rfl⟩⟩;(try first|exact ⟨rfl,_,World.drewN_drewN _ _ _⟩|exact ⟨rfl,_,Eq.trans (World.drewN_drewN _ _ _) (congrArg (World.drewN _) (Nat.add_assoc _ _ _))⟩);have p596:0≤(x33_2:Int):=of_decide_eq_true (by first|(with_reducible assumption)|assumption);have q596:x33_2<(l0_1.length:Int):=of_decide_eq_true (by first|(with_reducible assumption)|assumption);obtain ⟨ad596,e596,hx596_0⟩:=Kd.at_string HR0_1.out x33_2 p596 q596;cases e596;replace hx596_0:=(HB.out.cell (World.block_lt_of_cell? w _ hx596_0)).trans hx596_0;replace p596:=eq_true p596;replace q596:=eq_true q596)|(go_at_call 57;(with_reducible refine (impl_TextOk.calls k2 (rdOf ByteArray.empty l0_1 x33_2) false _ A20.out).mono ?_);rintro e w' ⟨rfl,⟨nd,rfl⟩⟩;(try first|exact ⟨rfl,_,World.drewN_drewN _ _ _⟩|exact ⟨rfl,_,Eq.trans (World.drewN_drewN _ _ _) (congrArg (World.drewN _) (Nat.add_assoc _ _ _))⟩)));try go_wp2_with (first|(go_at_call 57;(with_reducible refine (impl_TextOk.calls k2 (rdOf ByteArray.empty l0_0 x33_2) true _ A17.out).mono ?_);rintro e w' ⟨rfl,⟨nd,rfl⟩⟩;(try first|exact ⟨rfl,_,World.drewN_drewN _ _ _⟩|exact ⟨rfl,_,Eq.trans (World.drewN_drewN _ _ _) (congrArg (World.drewN _) (Nat.add_assoc _ _ _))⟩);have p596:0≤(x33_2:Int):=of_decide_eq_true (by first|(with_reducible assumption)|assumption);have q596:x33_2<(l0_1.length:Int):=of_decide_eq_true (by first|(with_reducible assumption)|assumption);obtain ⟨ad596,e596,hx596_0⟩:=Kd.at_string HR0_1.out x33_2 p596 q596;cases e596;replace hx596_0:=(HB.out.cell (World.block_lt_of_cell? w _ hx596_0)).trans hx596_0;replace p596:=eq_true p596;replace q596:=eq_true q596)|(go_at_call 57;(with_reducible refine (impl_TextOk.calls k2 (rdOf ByteArray.empty l0_1 x33_2) false _ A20.out).mono ?_);rintro e w' ⟨rfl,⟨nd,rfl⟩⟩;(try first|exact ⟨rfl,_,World.drewN_drewN _ _ _⟩|exact ⟨rfl,_,Eq.trans (World.drewN_drewN _ _ _) (congrArg (World.drewN _) (Nat.add_assoc _ _ _))⟩))))
            go_ret
            exact ⟨by first|rfl|(simp [errW_none,errW_some] <;> rfl)|(simp [*,errW_none,errW_some] <;> rfl),by repeat (first|(with_reducible first|exact HB.out|apply below_alloc|apply pw_below_drewN|apply below_drew1|refine below_set ?_ GE593.out)|exact HB.out)⟩
          ·rw [if_neg c19] at H
           exact absurd H (by simp)
         ·replace c18:=Bool.eq_false_iff.mpr c18
          subst c18
          have H1:(some false)=some r:=by rw [if_neg (show ¬ (false=true) by decide)] at H;exact H
          clear H
          have H:=H1
          clear H1
          obtain rfl:=Option.some.inj H
          have hcz24_0:wr.cell? ⟨gb593,0,none⟩=some (.slice A0_0 l0_0.length c0_0):=(blk_cell BK593.out 0).trans rfl
          have hcz24_1:wr.cell? ⟨gb593,1,none⟩=some (.slice A0_1 l0_1.length c0_1):=(blk_cell BK593.out 1).trans rfl
          have hcz24_2:wr.cell? ⟨gb593,2,none⟩=some (.slice A0_2 l0_2.length c0_2):=(blk_cell BK593.out 2).trans rfl
          have hcz24_3:wr.cell? ⟨gb593,3,none⟩=some (.slice A0_3 l0_3.length c0_3):=(blk_cell BK593.out 3).trans rfl
          have hcz24_4:wr.cell? ⟨gb593,4,none⟩=some (.slice A0_4 l0_4.length c0_4):=(blk_cell BK593.out 4).trans rfl
          have hfz24_0:=blk_frozen BK593.out 0
          have hfz24_1:=blk_frozen BK593.out 1
          have hfz24_2:=blk_frozen BK593.out 2
          have hfz24_3:=blk_frozen BK593.out 3
          have hfz24_4:=blk_frozen BK593.out 4
          have p594:0≤(x33_2:Int):=of_decide_eq_true (by first|(with_reducible assumption)|assumption)
          have q594:x33_2<(l0_0.length:Int):=of_decide_eq_true (by first|(with_reducible assumption)|assumption)
          obtain ⟨ad594,e594,hx594_0⟩:=Kd.at_string HR0_0.out x33_2 p594 q594
          cases e594
          replace hx594_0:=(HB.out.cell (World.block_lt_of_cell? w _ hx594_0)).trans hx594_0
          replace p594:=eq_true p594
          replace q594:=eq_true q594
          go_wp2_with (first|(go_at_call 57;(with_reducible refine (impl_TextOk.calls k2 (rdOf ByteArray.empty l0_0 x33_2) false _ A17.out).mono ?_);rintro e w' ⟨rfl,⟨nd,rfl⟩⟩;(try first|exact ⟨rfl,_,World.drewN_drewN _ _ _⟩|exact ⟨rfl,_,Eq.trans (World.drewN_drewN _ _ _) (congrArg (World.drewN _) (Nat.add_assoc _ _ _))⟩)))
          repeat (go_quiet (first|(go_at_call 57;(with_reducible refine (impl_TextOk.calls k2 (rdOf ByteArray.empty l0_0 x33_2) false _ A17.out).mono ?_);rintro e w' ⟨rfl,⟨nd,rfl⟩⟩;(try first|exact ⟨rfl,_,World.drewN_drewN _ _ _⟩|exact ⟨rfl,_,Eq.trans (World.drewN_drewN _ _ _) (congrArg (World.drewN _) (Nat.add_assoc _ _ _))⟩)));try go_wp2_with (first|(go_at_call 57;(with_reducible refine (impl_TextOk.calls k2 (rdOf ByteArray.empty l0_0 x33_2) false _ A17.out).mono ?_);rintro e w' ⟨rfl,⟨nd,rfl⟩⟩;(try first|exact ⟨rfl,_,World.drewN_drewN _ _ _⟩|exact ⟨rfl,_,Eq.trans (World.drewN_drewN _ _ _) (congrArg (World.drewN _) (Nat.add_assoc _ _ _))⟩))))
          go_ret
          exact ⟨by first|rfl|(simp [errW_none,errW_some] <;> rfl)|(simp [*,errW_none,errW_some] <;> rfl),by repeat (first|(with_reducible first|exact HB.out|apply below_alloc|apply pw_below_drewN|apply below_drew1|refine below_set ?_ GE593.out)|exact HB.out)⟩
        ·rw [if_neg c16] at H
         exact absurd H (by simp)
       ·rw [if_neg c15] at H
        exact absurd H (by simp)
      ·rw [if_neg c14] at H
       have c14b0:decide (x33_2<3)=false:=decide_eq_false c14
       clear c14
       have H':=Ak H
       clear H
       go_wp2
       repeat (go_quiet (fail);try go_wp2)
       go_loopg [53] k2 (fun kq v53 w'=>∃ (x53_3:Int),v53 = .int .i64 x53_3∧Aside0 (impl_StoreOk.l1 kq x53_3 l0_0 l0_1 l0_2 l0_3 l0_4=some r)∧Aside0 (kq≤k2)∧Aside0 (w'.heap[gb593]?=some (.cells #[(.slice A0_0 l0_0.length c0_0),(.slice A0_1 l0_1.length c0_1),(.slice A0_2 l0_2.length c0_2),(.slice A0_3 l0_3.length c0_3),(.slice A0_4 l0_4.length c0_4)] 26 (0,0)))∧Aside0 (Below w.heap.size w w'))
       case atStart=>exact ⟨(0),(by first|rfl|(simp;done)|(simp [*];done)),H',⟨Nat.le_refl _⟩,⟨by (with_reducible repeat (first|refine blk_drewN ?_ _|refine blk_drew ?_|refine blk_alloc ?_ _));exact BK593.out⟩,⟨by repeat (first|(with_reducible first|exact HB.out|apply below_alloc|apply pw_below_drewN|apply below_drew1|refine below_set ?_ GE593.out)|exact HB.out)⟩⟩
       case round =>
        clear H'
        try clear c1
        try clear c2
        try clear p2
        try clear c4
        try clear c4b0
        try clear c4b1
        try clear c5
        try clear c5b0
        try clear c5b1
        try clear p5
        try clear q5
        try clear hx5
        try clear c6
        try clear c6b0
        try clear c6b1
        try clear p6
        try clear c7
        try clear c7b0
        try clear c7b1
        try clear c13
        try clear c14
        try clear c14b0
        try clear c15
        try clear c15b0
        try clear c16
        try clear c16b0
        try clear c18
        try clear c19
        try clear c19b0
        try clear c21
        try clear c23
        try clear hcz10_0
        try clear hcz10_1
        try clear hcz10_2
        try clear hcz10_3
        try clear hcz10_4
        try clear hcz11_0
        try clear hcz11_1
        try clear hcz11_2
        try clear hcz11_3
        try clear hcz11_4
        try clear hcz12_0
        try clear hcz12_1
        try clear hcz12_2
        try clear hcz12_3
        try clear hcz12_4
        try clear hcz22_0
        try clear hcz22_1
        try clear hcz22_2
        try clear hcz22_3
        try clear hcz22_4
        try clear hcz23_0
        try clear hcz23_1
        try clear hcz23_2
        try clear hcz23_3
        try clear hcz23_4
        try clear hcz24_0
        try clear hcz24_1
        try clear hcz24_2
        try clear hcz24_3
        try clear hcz24_4
        try clear hcz8_0
        try clear hcz8_1
        try clear hcz8_2
        try clear hcz8_3
        try clear hcz8_4
        try clear hcz9_0
        try clear hcz9_1
        try clear hcz9_2
        try clear hcz9_3
        try clear hcz9_4
        try clear hfz10_0
        try clear hfz10_1
        try clear hfz10_2
        try clear hfz10_3
        try clear hfz10_4
        try clear hfz11_0
        try clear hfz11_1
        try clear hfz11_2
        try clear hfz11_3
        try clear hfz11_4
        try clear hfz12_0
        try clear hfz12_1
        try clear hfz12_2
        try clear hfz12_3
        try clear hfz12_4
        try clear hfz22_0
        try clear hfz22_1
        try clear hfz22_2
        try clear hfz22_3
        try clear hfz22_4
        try clear hfz23_0
        try clear hfz23_1
        try clear hfz23_2
        try clear hfz23_3
        try clear hfz23_4
        try clear hfz24_0
        try clear hfz24_1
        try clear hfz24_2
        try clear hfz24_3
        try clear hfz24_4
        try clear hfz8_0
        try clear hfz8_1
        try clear hfz8_2
        try clear hfz8_3
        try clear hfz8_4
        try clear hfz9_0
        try clear hfz9_1
        try clear hfz9_2
        try clear hfz9_3
        try clear hfz9_4
        try clear hx594_0
        try clear hx596_0
        try clear p2
        try clear p594
        try clear p596
        try clear q594
        try clear q596
        obtain ⟨x53_3,rfl,HA,HK3,BK593,HB⟩:=hrel
        cases gk with
        | zero=>exact absurd HA.out (by simp [impl_StoreOk.l1])
        | succ k3 =>
         have H:=HA.out
         clear HA
         simp only [impl_StoreOk.l1] at H
         by_cases c25:x53_3<3
         ·rw [if_pos c25] at H
          have c25b0:decide (x53_3<3)=true:=decide_eq_true c25
          clear c25
          by_cases c26:0≤x53_3
          ·rw [if_pos c26] at H
           have c26b0:decide (0≤x53_3)=true:=decide_eq_true c26
           clear c26
           by_cases c27:x53_3<(l0_3.length:Int)
           ·rw [if_pos c27] at H
            have c27b0:decide (x53_3<(l0_3.length:Int))=true:=decide_eq_true c27
            clear c27
            by_cases c28:(rd l0_3 x53_3)<0
            ·rw [if_pos c28] at H
             have c28b0:decide ((rd l0_3 x53_3)<0)=true:=decide_eq_true c28
             clear c28
             obtain rfl:=Option.some.inj H
             have hcz29_0:wr.cell? ⟨gb593,0,none⟩=some (.slice A0_0 l0_0.length c0_0):=(blk_cell BK593.out 0).trans rfl
             have hcz29_1:wr.cell? ⟨gb593,1,none⟩=some (.slice A0_1 l0_1.length c0_1):=(blk_cell BK593.out 1).trans rfl
             have hcz29_2:wr.cell? ⟨gb593,2,none⟩=some (.slice A0_2 l0_2.length c0_2):=(blk_cell BK593.out 2).trans rfl
             have hcz29_3:wr.cell? ⟨gb593,3,none⟩=some (.slice A0_3 l0_3.length c0_3):=(blk_cell BK593.out 3).trans rfl
             have hcz29_4:wr.cell? ⟨gb593,4,none⟩=some (.slice A0_4 l0_4.length c0_4):=(blk_cell BK593.out 4).trans rfl
             have hfz29_0:=blk_frozen BK593.out 0
             have hfz29_1:=blk_frozen BK593.out 1
             have hfz29_2:=blk_frozen BK593.out 2
             have hfz29_3:=blk_frozen BK593.out 3
             have hfz29_4:=blk_frozen BK593.out 4
             have p598:0≤(x53_3:Int):=of_decide_eq_true (by first|(with_reducible assumption)|assumption)
             have q598:x53_3<(l0_3.length:Int):=of_decide_eq_true (by first|(with_reducible assumption)|assumption)
             obtain ⟨ad598,e598,hx598_0⟩:=Kd.at_int HR0_3.out x53_3 p598 q598
             cases e598
             replace hx598_0:=(HB.out.cell (World.block_lt_of_cell? w _ hx598_0)).trans hx598_0
             replace p598:=eq_true p598
             replace q598:=eq_true q598
             go_wp2
             repeat (go_quiet (fail);try go_wp2)
             go_ret
             exact ⟨by first|rfl|(simp [errW_none,errW_some] <;> rfl)|(simp [*,errW_none,errW_some] <;> rfl),by repeat (first|(with_reducible first|exact HB.out|apply below_alloc|apply pw_below_drewN|apply below_drew1|refine below_set ?_ GE593.out)|exact HB.out)⟩
            ·rw [if_neg c28] at H
             have c28b0:decide ((rd l0_3 x53_3)<0)=false:=decide_eq_false c28
             clear c28
             by_cases c30:x53_3<(l0_2.length:Int)
             ·rw [if_pos c30] at H
              have c30b0:decide (x53_3<(l0_2.length:Int))=true:=decide_eq_true c30
              clear c30
              by_cases c31:(rd l0_3 x53_3) > (rd l0_2 x53_3)
              ·rw [if_pos c31] at H
               have c31b0:decide ((rd l0_2 x53_3)<(rd l0_3 x53_3))=true:=decide_eq_true c31
               clear c31
               obtain rfl:=Option.some.inj H
               have hcz32_0:wr.cell? ⟨gb593,0,none⟩=some (.slice A0_0 l0_0.length c0_0):=(blk_cell BK593.out 0).trans rfl
               have hcz32_1:wr.cell? ⟨gb593,1,none⟩=some (.slice A0_1 l0_1.length c0_1):=(blk_cell BK593.out 1).trans rfl
               have hcz32_2:wr.cell? ⟨gb593,2,none⟩=some (.slice A0_2 l0_2.length c0_2):=(blk_cell BK593.out 2).trans rfl
               have hcz32_3:wr.cell? ⟨gb593,3,none⟩=some (.slice A0_3 l0_3.length c0_3):=(blk_cell BK593.out 3).trans rfl
               have hcz32_4:wr.cell? ⟨gb593,4,none⟩=some (.slice A0_4 l0_4.length c0_4):=(blk_cell BK593.out 4).trans rfl
               have hfz32_0:=blk_frozen BK593.out 0
               have hfz32_1:=blk_frozen BK593.out 1
               have hfz32_2:=blk_frozen BK593.out 2
               have hfz32_3:=blk_frozen BK593.out 3
               have hfz32_4:=blk_frozen BK593.out 4
               have p598:0≤(x53_3:Int):=of_decide_eq_true (by first|(with_reducible assumption)|assumption)
               have q598:x53_3<(l0_3.length:Int):=of_decide_eq_true (by first|(with_reducible assumption)|assumption)
               obtain ⟨ad598,e598,hx598_0⟩:=Kd.at_int HR0_3.out x53_3 p598 q598
               cases e598
               replace hx598_0:=(HB.out.cell (World.block_lt_of_cell? w _ hx598_0)).trans hx598_0
               replace p598:=eq_true p598
               replace q598:=eq_true q598
               have p599:0≤(x53_3:Int):=of_decide_eq_true (by first|(with_reducible assumption)|assumption)
               have q599:x53_3<(l0_3.length:Int):=of_decide_eq_true (by first|(with_reducible assumption)|assumption)
               obtain ⟨ad599,e599,hx599_0⟩:=Kd.at_int HR0_3.out x53_3 p599 q599
               obtain rfl:ad598=ad599:=(by injection e599)
               replace hx599_0:=(HB.out.cell (World.block_lt_of_cell? w _ hx599_0)).trans hx599_0
               replace p599:=eq_true p599
               replace q599:=eq_true q599
               have p600:0≤(x53_3:Int):=of_decide_eq_true (by first|(with_reducible assumption)|assumption)
               have q600:x53_3<(l0_2.length:Int):=of_decide_eq_true (by first|(with_reducible assumption)|assumption)
               obtain ⟨ad600,e600,hx600_0⟩:=Kd.at_int HR0_2.out x53_3 p600 q600
               cases e600
               replace hx600_0:=(HB.out.cell (World.block_lt_of_cell? w _ hx600_0)).trans hx600_0
               replace p600:=eq_true p600
               replace q600:=eq_true q600
               go_wp2
               repeat (go_quiet (fail);try go_wp2)
               go_ret
               exact ⟨by first|rfl|(simp [errW_none,errW_some] <;> rfl)|(simp [*,errW_none,errW_some] <;> rfl),by repeat (first|(with_reducible first|exact HB.out|apply below_alloc|apply pw_below_drewN|apply below_drew1|refine below_set ?_ GE593.out)|exact HB.out)⟩
              ·rw [if_neg c31] at H
               have c31b0:decide ((rd l0_2 x53_3)<(rd l0_3 x53_3))=false:=decide_eq_false c31
               clear c31
               by_cases c33:(rd l0_2 x53_3) > 1000
               ·rw [if_pos c33] at H
                have c33b0:decide (1000<(rd l0_2 x53_3))=true:=decide_eq_true c33
                clear c33
                obtain rfl:=Option.some.inj H
                have hcz34_0:wr.cell? ⟨gb593,0,none⟩=some (.slice A0_0 l0_0.length c0_0):=(blk_cell BK593.out 0).trans rfl
                have hcz34_1:wr.cell? ⟨gb593,1,none⟩=some (.slice A0_1 l0_1.length c0_1):=(blk_cell BK593.out 1).trans rfl
                have hcz34_2:wr.cell? ⟨gb593,2,none⟩=some (.slice A0_2 l0_2.length c0_2):=(blk_cell BK593.out 2).trans rfl
                have hcz34_3:wr.cell? ⟨gb593,3,none⟩=some (.slice A0_3 l0_3.length c0_3):=(blk_cell BK593.out 3).trans rfl
                have hcz34_4:wr.cell? ⟨gb593,4,none⟩=some (.slice A0_4 l0_4.length c0_4):=(blk_cell BK593.out 4).trans rfl
                have hfz34_0:=blk_frozen BK593.out 0
                have hfz34_1:=blk_frozen BK593.out 1
                have hfz34_2:=blk_frozen BK593.out 2
                have hfz34_3:=blk_frozen BK593.out 3
                have hfz34_4:=blk_frozen BK593.out 4
                have p598:0≤(x53_3:Int):=of_decide_eq_true (by first|(with_reducible assumption)|assumption)
                have q598:x53_3<(l0_3.length:Int):=of_decide_eq_true (by first|(with_reducible assumption)|assumption)
                obtain ⟨ad598,e598,hx598_0⟩:=Kd.at_int HR0_3.out x53_3 p598 q598
                cases e598
                replace hx598_0:=(HB.out.cell (World.block_lt_of_cell? w _ hx598_0)).trans hx598_0
                replace p598:=eq_true p598
                replace q598:=eq_true q598
                have p599:0≤(x53_3:Int):=of_decide_eq_true (by first|(with_reducible assumption)|assumption)
                have q599:x53_3<(l0_3.length:Int):=of_decide_eq_true (by first|(with_reducible assumption)|assumption)
                obtain ⟨ad599,e599,hx599_0⟩:=Kd.at_int HR0_3.out x53_3 p599 q599
                obtain rfl:ad598=ad599:=(by injection e599)
                replace hx599_0:=(HB.out.cell (World.block_lt_of_cell? w _ hx599_0)).trans hx599_0
                replace p599:=eq_true p599
                replace q599:=eq_true q599
                have p600:0≤(x53_3:Int):=of_decide_eq_true (by first|(with_reducible assumption)|assumption)
                have q600:x53_3<(l0_2.length:Int):=of_decide_eq_true (by first|(with_reducible assumption)|assumption)
                obtain ⟨ad600,e600,hx600_0⟩:=Kd.at_int HR0_2.out x53_3 p600 q600
                cases e600
                replace hx600_0:=(HB.out.cell (World.block_lt_of_cell? w _ hx600_0)).trans hx600_0
                replace p600:=eq_true p600
                replace q600:=eq_true q600
                have p601:0≤(x53_3:Int):=of_decide_eq_true (by first|(with_reducible assumption)|assumption)
                have q601:x53_3<(l0_2.length:Int):=of_decide_eq_true (by first|(with_reducible assumption)|assumption)
                obtain ⟨ad601,e601,hx601_0⟩:=Kd.at_int HR0_2.out x53_3 p601 q601
                obtain rfl:ad600=ad601:=(by injection e601)
                replace hx601_0:=(HB.out.cell (World.block_lt_of_cell? w _ hx601_0)).trans hx601_0
                replace p601:=eq_true p601
                replace q601:=eq_true q601
                go_wp2
                repeat (go_quiet (fail);try go_wp2)
                go_ret
                exact ⟨by first|rfl|(simp [errW_none,errW_some] <;> rfl)|(simp [*,errW_none,errW_some] <;> rfl),by repeat (first|(with_reducible first|exact HB.out|apply below_alloc|apply pw_below_drewN|apply below_drew1|refine below_set ?_ GE593.out)|exact HB.out)⟩
               ·rw [if_neg c33] at H
                have c33b0:decide (1000<(rd l0_2 x53_3))=false:=decide_eq_false c33
                clear c33
                by_cases c35:x53_3<(l0_4.length:Int)
                ·rw [if_pos c35] at H
                 have c35b0:decide (x53_3<(l0_4.length:Int))=true:=decide_eq_true c35
                 clear c35
                 by_cases c36:(rd l0_4 x53_3)<0
                 ·rw [if_pos c36] at H
                  have c36b0:decide ((rd l0_4 x53_3)<0)=true:=decide_eq_true c36
                  clear c36
                  obtain rfl:=Option.some.inj H
                  have hcz37_0:wr.cell? ⟨gb593,0,none⟩=some (.slice A0_0 l0_0.length c0_0):=(blk_cell BK593.out 0).trans rfl
                  have hcz37_1:wr.cell? ⟨gb593,1,none⟩=some (.slice A0_1 l0_1.length c0_1):=(blk_cell BK593.out 1).trans rfl
                  have hcz37_2:wr.cell? ⟨gb593,2,none⟩=some (.slice A0_2 l0_2.length c0_2):=(blk_cell BK593.out 2).trans rfl
                  have hcz37_3:wr.cell? ⟨gb593,3,none⟩=some (.slice A0_3 l0_3.length c0_3):=(blk_cell BK593.out 3).trans rfl
                  have hcz37_4:wr.cell? ⟨gb593,4,none⟩=some (.slice A0_4 l0_4.length c0_4):=(blk_cell BK593.out 4).trans rfl
                  have hfz37_0:=blk_frozen BK593.out 0
                  have hfz37_1:=blk_frozen BK593.out 1
                  have hfz37_2:=blk_frozen BK593.out 2
                  have hfz37_3:=blk_frozen BK593.out 3
                  have hfz37_4:=blk_frozen BK593.out 4
                  have p598:0≤(x53_3:Int):=of_decide_eq_true (by first|(with_reducible assumption)|assumption)
                  have q598:x53_3<(l0_3.length:Int):=of_decide_eq_true (by first|(with_reducible assumption)|assumption)
                  obtain ⟨ad598,e598,hx598_0⟩:=Kd.at_int HR0_3.out x53_3 p598 q598
                  cases e598
                  replace hx598_0:=(HB.out.cell (World.block_lt_of_cell? w _ hx598_0)).trans hx598_0
                  replace p598:=eq_true p598
                  replace q598:=eq_true q598
                  have p599:0≤(x53_3:Int):=of_decide_eq_true (by first|(with_reducible assumption)|assumption)
                  have q599:x53_3<(l0_3.length:Int):=of_decide_eq_true (by first|(with_reducible assumption)|assumption)
                  obtain ⟨ad599,e599,hx599_0⟩:=Kd.at_int HR0_3.out x53_3 p599 q599
                  obtain rfl:ad598=ad599:=(by injection e599)
                  replace hx599_0:=(HB.out.cell (World.block_lt_of_cell? w _ hx599_0)).trans hx599_0
                  replace p599:=eq_true p599
                  replace q599:=eq_true q599
                  have p600:0≤(x53_3:Int):=of_decide_eq_true (by first|(with_reducible assumption)|assumption)
                  have q600:x53_3<(l0_2.length:Int):=of_decide_eq_true (by first|(with_reducible assumption)|assumption)
                  obtain ⟨ad600,e600,hx600_0⟩:=Kd.at_int HR0_2.out x53_3 p600 q600
                  cases e600
                  replace hx600_0:=(HB.out.cell (World.block_lt_of_cell? w _ hx600_0)).trans hx600_0
                  replace p600:=eq_true p600
                  replace q600:=eq_true q600
                  have p601:0≤(x53_3:Int):=of_decide_eq_true (by first|(with_reducible assumption)|assumption)
                  have q601:x53_3<(l0_2.length:Int):=of_decide_eq_true (by first|(with_reducible assumption)|assumption)
                  obtain ⟨ad601,e601,hx601_0⟩:=Kd.at_int HR0_2.out x53_3 p601 q601
                  obtain rfl:ad600=ad601:=(by injection e601)
                  replace hx601_0:=(HB.out.cell (World.block_lt_of_cell? w _ hx601_0)).trans hx601_0
                  replace p601:=eq_true p601
                  replace q601:=eq_true q601
                  have p602:0≤(x53_3:Int):=of_decide_eq_true (by first|(with_reducible assumption)|assumption)
                  have q602:x53_3<(l0_4.length:Int):=of_decide_eq_true (by first|(with_reducible assumption)|assumption)
                  obtain ⟨ad602,e602,hx602_0⟩:=Kd.at_int HR0_4.out x53_3 p602 q602
                  cases e602
                  replace hx602_0:=(HB.out.cell (World.block_lt_of_cell? w _ hx602_0)).trans hx602_0
                  replace p602:=eq_true p602
                  replace q602:=eq_true q602
                  go_wp2
                  repeat (go_quiet (fail);try go_wp2)
                  go_ret
                  exact ⟨by first|rfl|(simp [errW_none,errW_some] <;> rfl)|(simp [*,errW_none,errW_some] <;> rfl),by repeat (first|(with_reducible first|exact HB.out|apply below_alloc|apply pw_below_drewN|apply below_drew1|refine below_set ?_ GE593.out)|exact HB.out)⟩
                 ·rw [if_neg c36] at H
                  have c36b0:decide ((rd l0_4 x53_3)<0)=false:=decide_eq_false c36
                  clear c36
                  by_cases c38:(rd l0_4 x53_3) > 100
                  ·rw [if_pos c38] at H
                   have c38b0:decide (100<(rd l0_4 x53_3))=true:=decide_eq_true c38
                   clear c38
                   obtain rfl:=Option.some.inj H
                   have hcz39_0:wr.cell? ⟨gb593,0,none⟩=some (.slice A0_0 l0_0.length c0_0):=(blk_cell BK593.out 0).trans rfl
                   have hcz39_1:wr.cell? ⟨gb593,1,none⟩=some (.slice A0_1 l0_1.length c0_1):=(blk_cell BK593.out 1).trans rfl
                   have hcz39_2:wr.cell? ⟨gb593,2,none⟩=some (.slice A0_2 l0_2.length c0_2):=(blk_cell BK593.out 2).trans rfl
                   have hcz39_3:wr.cell? ⟨gb593,3,none⟩=some (.slice A0_3 l0_3.length c0_3):=(blk_cell BK593.out 3).trans rfl
                   have hcz39_4:wr.cell? ⟨gb593,4,none⟩=some (.slice A0_4 l0_4.length c0_4):=(blk_cell BK593.out 4).trans rfl
                   have hfz39_0:=blk_frozen BK593.out 0
                   have hfz39_1:=blk_frozen BK593.out 1
                   have hfz39_2:=blk_frozen BK593.out 2
                   have hfz39_3:=blk_frozen BK593.out 3
                   have hfz39_4:=blk_frozen BK593.out 4
                   have p598:0≤(x53_3:Int):=of_decide_eq_true (by first|(with_reducible assumption)|assumption)
                   have q598:x53_3<(l0_3.length:Int):=of_decide_eq_true (by first|(with_reducible assumption)|assumption)
                   obtain ⟨ad598,e598,hx598_0⟩:=Kd.at_int HR0_3.out x53_3 p598 q598
                   cases e598
                   replace hx598_0:=(HB.out.cell (World.block_lt_of_cell? w _ hx598_0)).trans hx598_0
                   replace p598:=eq_true p598
                   replace q598:=eq_true q598
                   have p599:0≤(x53_3:Int):=of_decide_eq_true (by first|(with_reducible assumption)|assumption)
                   have q599:x53_3<(l0_3.length:Int):=of_decide_eq_true (by first|(with_reducible assumption)|assumption)
                   obtain ⟨ad599,e599,hx599_0⟩:=Kd.at_int HR0_3.out x53_3 p599 q599
                   obtain rfl:ad598=ad599:=(by injection e599)
                   replace hx599_0:=(HB.out.cell (World.block_lt_of_cell? w _ hx599_0)).trans hx599_0
                   replace p599:=eq_true p599
                   replace q599:=eq_true q599
                   have p600:0≤(x53_3:Int):=of_decide_eq_true (by first|(with_reducible assumption)|assumption)
                   have q600:x53_3<(l0_2.length:Int):=of_decide_eq_true (by first|(with_reducible assumption)|assumption)
                   obtain ⟨ad600,e600,hx600_0⟩:=Kd.at_int HR0_2.out x53_3 p600 q600
                   cases e600
                   replace hx600_0:=(HB.out.cell (World.block_lt_of_cell? w _ hx600_0)).trans hx600_0
                   replace p600:=eq_true p600
                   replace q600:=eq_true q600
                   have p601:0≤(x53_3:Int):=of_decide_eq_true (by first|(with_reducible assumption)|assumption)
                   have q601:x53_3<(l0_2.length:Int):=of_decide_eq_true (by first|(with_reducible assumption)|assumption)
                   obtain ⟨ad601,e601,hx601_0⟩:=Kd.at_int HR0_2.out x53_3 p601 q601
                   obtain rfl:ad600=ad601:=(by injection e601)
                   replace hx601_0:=(HB.out.cell (World.block_lt_of_cell? w _ hx601_0)).trans hx601_0
                   replace p601:=eq_true p601
                   replace q601:=eq_true q601
                   have p602:0≤(x53_3:Int):=of_decide_eq_true (by first|(with_reducible assumption)|assumption)
                   have q602:x53_3<(l0_4.length:Int):=of_decide_eq_true (by first|(with_reducible assumption)|assumption)
                   obtain ⟨ad602,e602,hx602_0⟩:=Kd.at_int HR0_4.out x53_3 p602 q602
                   cases e602
                   replace hx602_0:=(HB.out.cell (World.block_lt_of_cell? w _ hx602_0)).trans hx602_0
                   replace p602:=eq_true p602
                   replace q602:=eq_true q602
                   have p603:0≤(x53_3:Int):=of_decide_eq_true (by first|(with_reducible assumption)|assumption)
                   have q603:x53_3<(l0_4.length:Int):=of_decide_eq_true (by first|(with_reducible assumption)|assumption)
                   obtain ⟨ad603,e603,hx603_0⟩:=Kd.at_int HR0_4.out x53_3 p603 q603
                   obtain rfl:ad602=ad603:=(by injection e603)
                   replace hx603_0:=(HB.out.cell (World.block_lt_of_cell? w _ hx603_0)).trans hx603_0
                   replace p603:=eq_true p603
                   replace q603:=eq_true q603
                   go_wp2
                   repeat (go_quiet (fail);try go_wp2)
                   go_ret
                   exact ⟨by first|rfl|(simp [errW_none,errW_some] <;> rfl)|(simp [*,errW_none,errW_some] <;> rfl),by repeat (first|(with_reducible first|exact HB.out|apply below_alloc|apply pw_below_drewN|apply below_drew1|refine below_set ?_ GE593.out)|exact HB.out)⟩
                  ·rw [if_neg c38] at H
                   have c38b0:decide (100<(rd l0_4 x53_3))=false:=decide_eq_false c38
                   clear c38
                   have H':=Ak H
                   clear H
                   have hcz40_0:wr.cell? ⟨gb593,0,none⟩=some (.slice A0_0 l0_0.length c0_0):=(blk_cell BK593.out 0).trans rfl
                   have hcz40_1:wr.cell? ⟨gb593,1,none⟩=some (.slice A0_1 l0_1.length c0_1):=(blk_cell BK593.out 1).trans rfl
                   have hcz40_2:wr.cell? ⟨gb593,2,none⟩=some (.slice A0_2 l0_2.length c0_2):=(blk_cell BK593.out 2).trans rfl
                   have hcz40_3:wr.cell? ⟨gb593,3,none⟩=some (.slice A0_3 l0_3.length c0_3):=(blk_cell BK593.out 3).trans rfl
                   have hcz40_4:wr.cell? ⟨gb593,4,none⟩=some (.slice A0_4 l0_4.length c0_4):=(blk_cell BK593.out 4).trans rfl
                   have hfz40_0:=blk_frozen BK593.out 0
                   have hfz40_1:=blk_frozen BK593.out 1
                   have hfz40_2:=blk_frozen BK593.out 2
                   have hfz40_3:=blk_frozen BK593.out 3
                   have hfz40_4:=blk_frozen BK593.out 4
                   have p598:0≤(x53_3:Int):=of_decide_eq_true (by first|(with_reducible assumption)|assumption)
                   have q598:x53_3<(l0_3.length:Int):=of_decide_eq_true (by first|(with_reducible assumption)|assumption)
                   obtain ⟨ad598,e598,hx598_0⟩:=Kd.at_int HR0_3.out x53_3 p598 q598
                   cases e598
                   replace hx598_0:=(HB.out.cell (World.block_lt_of_cell? w _ hx598_0)).trans hx598_0
                   replace p598:=eq_true p598
                   replace q598:=eq_true q598
                   have p599:0≤(x53_3:Int):=of_decide_eq_true (by first|(with_reducible assumption)|assumption)
                   have q599:x53_3<(l0_3.length:Int):=of_decide_eq_true (by first|(with_reducible assumption)|assumption)
                   obtain ⟨ad599,e599,hx599_0⟩:=Kd.at_int HR0_3.out x53_3 p599 q599
                   obtain rfl:ad598=ad599:=(by injection e599)
                   replace hx599_0:=(HB.out.cell (World.block_lt_of_cell? w _ hx599_0)).trans hx599_0
                   replace p599:=eq_true p599
                   replace q599:=eq_true q599
                   have p600:0≤(x53_3:Int):=of_decide_eq_true (by first|(with_reducible assumption)|assumption)
                   have q600:x53_3<(l0_2.length:Int):=of_decide_eq_true (by first|(with_reducible assumption)|assumption)
                   obtain ⟨ad600,e600,hx600_0⟩:=Kd.at_int HR0_2.out x53_3 p600 q600
                   cases e600
                   replace hx600_0:=(HB.out.cell (World.block_lt_of_cell? w _ hx600_0)).trans hx600_0
                   replace p600:=eq_true p600
                   replace q600:=eq_true q600
                   have p601:0≤(x53_3:Int):=of_decide_eq_true (by first|(with_reducible assumption)|assumption)
                   have q601:x53_3<(l0_2.length:Int):=of_decide_eq_true (by first|(with_reducible assumption)|assumption)
                   obtain ⟨ad601,e601,hx601_0⟩:=Kd.at_int HR0_2.out x53_3 p601 q601
                   obtain rfl:ad600=ad601:=(by injection e601)
                   replace hx601_0:=(HB.out.cell (World.block_lt_of_cell? w _ hx601_0)).trans hx601_0
                   replace p601:=eq_true p601
                   replace q601:=eq_true q601
                   have p602:0≤(x53_3:Int):=of_decide_eq_true (by first|(with_reducible assumption)|assumption)
                   have q602:x53_3<(l0_4.length:Int):=of_decide_eq_true (by first|(with_reducible assumption)|assumption)
                   obtain ⟨ad602,e602,hx602_0⟩:=Kd.at_int HR0_4.out x53_3 p602 q602
                   cases e602
                   replace hx602_0:=(HB.out.cell (World.block_lt_of_cell? w _ hx602_0)).trans hx602_0
                   replace p602:=eq_true p602
                   replace q602:=eq_true q602
                   have p603:0≤(x53_3:Int):=of_decide_eq_true (by first|(with_reducible assumption)|assumption)
                   have q603:x53_3<(l0_4.length:Int):=of_decide_eq_true (by first|(with_reducible assumption)|assumption)
                   obtain ⟨ad603,e603,hx603_0⟩:=Kd.at_int HR0_4.out x53_3 p603 q603
                   obtain rfl:ad602=ad603:=(by injection e603)
                   replace hx603_0:=(HB.out.cell (World.block_lt_of_cell? w _ hx603_0)).trans hx603_0
                   replace p603:=eq_true p603
                   replace q603:=eq_true q603
                   go_wp2
                   repeat (go_quiet (fail);try go_wp2)
                   go_roundg k3
                   case measure=>have:=HJ1.out;have:=HK2.out;have:=HK3.out;omega
                   case rel=>exact ⟨(wrap64 (x53_3 + 1)),(by first|rfl|(simp;done)|(simp [*];done)),H',⟨by have:=HJ1.out;have:=HK2.out;have:=HK3.out;omega⟩,⟨by (with_reducible repeat (first|refine blk_drewN ?_ _|refine blk_drew ?_|refine blk_alloc ?_ _));exact BK593.out⟩,⟨by repeat (first|(with_reducible first|exact HB.out|apply below_alloc|apply pw_below_drewN|apply below_drew1|refine below_set ?_ GE593.out)|exact HB.out)⟩⟩
                ·rw [if_neg c35] at H
                 exact absurd H (by simp)
             ·rw [if_neg c30] at H
              exact absurd H (by simp)
           ·rw [if_neg c27] at H
            exact absurd H (by simp)
          ·rw [if_neg c26] at H
           exact absurd H (by simp)
         ·rw [if_neg c25] at H
          have c25b0:decide (x53_3<3)=false:=decide_eq_false c25
          clear c25
          obtain rfl:=Option.some.inj H
          go_wp2
          repeat (go_quiet (fail);try go_wp2)
          go_ret
          exact ⟨by first|rfl|(simp [errW_none,errW_some] <;> rfl)|(simp [*,errW_none,errW_some] <;> rfl),by repeat (first|(with_reducible first|exact HB.out|apply below_alloc|apply pw_below_drewN|apply below_drew1|refine below_set ?_ GE593.out)|exact HB.out)⟩
end Go.Proofs.Ytmekkapacbdbeaa.P
namespace Go.Proofs.Ytmekkapacbdbeaa.P
open Go.RowKit Go.Proofs.YtmekkapacbdbeaaW.PrintWords
def byteOk (c:Int):Bool:=decide (c=46) || (decide (97≤c) && decide (c≤122)) || (decide (48≤c) && decide (c≤57))
def bytesOk (s:ByteArray):Bool:=allUp (fun j=>byteOk (bt s (j:Int))) 0 s.size
def textOk (s:ByteArray):Bool:=bytesOk s && decide (s.size≤48)
theorem spec_l2Byte_eq (c:Int):spec_l2Byte.f c=some (byteOk c):=by
 unfold spec_l2Byte.f byteOk
 by_cases h1:c=46
 ·subst h1;rfl
 ·by_cases h2:c ≥ 97 <;> by_cases h3:c≤122 <;> by_cases h4:c ≥ 48 <;> by_cases h5:c≤57 <;> simp [h1,h2,h3,h4,h5] <;> omega
theorem spec_TextOk_ev {s:ByteArray} (hs:s.size≤9223372036854775807):Ev (fun k=>spec_TextOk.f k s) (textOk s):=by
 have h:=loop_all (n:=s.size) (G:=fun k i=>spec_TextOk.l0 k s (i:Int)) (E:=fun j=>byteOk (bt s (j:Int))) (z:=decide (s.size≤48)) (fun k i hi=>by
  show spec_TextOk.l0 (k + 1) s (i:Int)=_
  rw [spec_TextOk.l0,if_pos (by omega),if_pos (by omega),spec_l2Byte_eq,Option.bind_some,w64s hi hs]) (fun k=>by
  show spec_TextOk.l0 (k + 1) s (s.size:Int)=_
  rw [spec_TextOk.l0,if_neg (by omega)]
  simp only [Option.some.injEq,decide_eq_decide]
  omega) s.size 0 (by omega)
 exact h
theorem impl_TextOk_ev {s:ByteArray} (hs:s.size≤9223372036854775807):Ev (fun k=>impl_TextOk.f k s) (textOk s):=by
 have h:=loop_all (n:=s.size) (G:=fun k i=>impl_TextOk.l0 k s (s.size:Int) (i:Int)) (E:=fun j=>byteOk (bt s (j:Int))) (z:=decide (s.size≤48)) (fun k i hi=>by
  show impl_TextOk.l0 (k + 1) s (s.size:Int) (i:Int)=_
  rw [impl_TextOk.l0,if_pos (by omega),if_pos (by omega),if_pos (by omega),w64s hi hs]
  generalize bt s (i:Int)=c
  unfold byteOk
  by_cases h1:c=46 <;> by_cases h2:c<97 <;> by_cases h3:c > 122 <;> by_cases h4:c<48 <;> by_cases h5:c > 57 <;> simp [h1,h2,h3,h4,h5] <;> first|omega|(have h6:¬ (97≤c):=by omega) <;> simp [*] <;> omega|skip) (fun k=>by
  show impl_TextOk.l0 (k + 1) s (s.size:Int) (s.size:Int)=_
  rw [impl_TextOk.l0,if_neg (by omega)]
  simp only [Option.some.injEq,decide_eq_decide]
  omega) s.size 0 (by omega)
 exact h
def textsOk (l:List ByteArray):Bool:=allUp (fun j=>textOk (l.getD j ByteArray.empty)) 0 l.length && decide (l.length=3)
def numOk (s:St) (j:Nat):Bool:=decide (0≤s.slast.getD j 0) && (decide (s.slast.getD j 0≤s.last.getD j 0) && (decide (s.last.getD j 0≤1000) && (decide (0≤s.floors.getD j 0) && decide (s.floors.getD j 0≤100))))
def lensOk (s:St):Bool:=decide (s.last.length=3) && (decide (s.slast.length=3) && decide (s.floors.length=3))
def stOk (s:St):Bool:=textsOk s.now && (textsOk s.sure && (lensOk s && allUp (numOk s) 0 3))
theorem spec_l5Texts_ev {l:List ByteArray} (hl:l.length≤9223372036854775807) (hz:∀ x ∈ l,x.size≤9223372036854775807):Ev (fun k=>spec_l5Texts.f k l) (textsOk l):=by
 have h:=loop_ev (n:=l.length) (G:=fun k i=>spec_l5Texts.l0 k l (i:Int)) (E:=fun j=>textOk (l.getD j ByteArray.empty)) (z:=decide (l.length=3)) (fun i hi z' hz'=>by
  have hx:l.getD i ByteArray.empty=l[i]:=by simp [List.getD_eq_getElem?_getD,hi]
  refine Ev.step (f:=fun k=>(spec_TextOk.f k l[i]).bind fun t=>if t=true then spec_l5Texts.l0 k l ((i + 1:Nat):Int) else some false) (fun k=>?_) ?_
  ·show spec_l5Texts.l0 (k + 1) l (i:Int)=_
   rw [spec_l5Texts.l0,if_pos (by omega),if_pos (by omega),rdOf_nat hi,w64s hi hl]
  ·refine Ev.bind (spec_TextOk_ev (hz _ (List.getElem_mem hi))) ?_
   rw [hx]
   cases textOk l[i]
   ·exact Ev.now _
   ·exact hz') (Ev.step (f:=fun _=>some (decide (l.length=3))) (fun k=>by
  show spec_l5Texts.l0 (k + 1) l (l.length:Int)=_
  rw [spec_l5Texts.l0,if_neg (by omega)]
  simp only [Option.some.injEq]
  by_cases h3:l.length=3
  ·rw [h3];rfl
  ·rw [decide_eq_false h3]
   simp only [beq_eq_false_iff_ne,ne_eq]
   omega) (Ev.now _)) l.length 0 (by omega)
 exact h
theorem rd_getD (l:List Int) (j:Nat):rd l (j:Int)=l.getD j 0:=by simp [rd]
theorem spec_nums_ev {s:St} (h2:s.last.length=3) (h3:s.slast.length=3) (h4:s.floors.length=3):Ev (fun k=>spec_StoreOk.l0 k 0 s.now s.sure s.last s.slast s.floors) (allUp (numOk s) 0 3):=by
 have h:=loop_all (n:=3) (G:=fun k i=>spec_StoreOk.l0 k (i:Int) s.now s.sure s.last s.slast s.floors) (E:=numOk s) (z:=true) (fun k i hi=>by
  show spec_StoreOk.l0 (k + 1) (i:Int) _ _ _ _ _=_
  rw [spec_StoreOk.l0,if_pos (by omega),if_pos (by omega),if_pos (by omega),w64s hi (by omega),rd_getD,rd_getD,rd_getD]
  unfold numOk
  generalize s.slast.getD i 0=x
  generalize s.last.getD i 0=y
  generalize s.floors.getD i 0=f
  by_cases g1:x<0
  ·rw [if_pos g1,decide_eq_false (show ¬ 0≤x by omega),Bool.false_and,if_neg (by decide)]
  rw [if_neg g1,if_pos (by omega),decide_eq_true (show 0≤x by omega),Bool.true_and]
  by_cases g2:x > y
  ·rw [if_pos g2,decide_eq_false (show ¬ x≤y by omega),Bool.false_and,if_neg (by decide)]
  rw [if_neg g2,decide_eq_true (show x≤y by omega),Bool.true_and]
  by_cases g3:y > 1000
  ·rw [if_pos g3,decide_eq_false (show ¬ y≤1000 by omega),Bool.false_and,if_neg (by decide)]
  rw [if_neg g3,if_pos (by omega),decide_eq_true (show y≤1000 by omega),Bool.true_and]
  by_cases g4:f<0
  ·rw [if_pos g4,decide_eq_false (show ¬ 0≤f by omega),Bool.false_and,if_neg (by decide)]
  rw [if_neg g4,decide_eq_true (show 0≤f by omega),Bool.true_and]
  by_cases g5:f > 100
  ·rw [if_pos g5,decide_eq_false (show ¬ f≤100 by omega),if_neg (by decide)]
  rw [if_neg g5,decide_eq_true (show f≤100 by omega),if_pos rfl]) (fun k=>by
  show spec_StoreOk.l0 (k + 1) ((3:Nat):Int) _ _ _ _ _=_
  rw [spec_StoreOk.l0,if_neg (by omega)]) 3 0 (by omega)
 rw [Bool.and_true] at h
 exact h
theorem impl_nums_ev {s:St} (h2:s.last.length=3) (h3:s.slast.length=3) (h4:s.floors.length=3):Ev (fun k=>impl_StoreOk.l1 k 0 s.now s.sure s.last s.slast s.floors) (allUp (numOk s) 0 3):=by
 have h:=loop_all (n:=3) (G:=fun k i=>impl_StoreOk.l1 k (i:Int) s.now s.sure s.last s.slast s.floors) (E:=numOk s) (z:=true) (fun k i hi=>by
  show impl_StoreOk.l1 (k + 1) (i:Int) _ _ _ _ _=_
  rw [impl_StoreOk.l1,if_pos (by omega),if_pos (by omega),if_pos (by omega),w64s hi (by omega),rd_getD,rd_getD,rd_getD]
  unfold numOk
  generalize s.slast.getD i 0=x
  generalize s.last.getD i 0=y
  generalize s.floors.getD i 0=f
  by_cases g1:x<0
  ·rw [if_pos g1,decide_eq_false (show ¬ 0≤x by omega),Bool.false_and,if_neg (by decide)]
  rw [if_neg g1,if_pos (by omega),decide_eq_true (show 0≤x by omega),Bool.true_and]
  by_cases g2:x > y
  ·rw [if_pos g2,decide_eq_false (show ¬ x≤y by omega),Bool.false_and,if_neg (by decide)]
  rw [if_neg g2,decide_eq_true (show x≤y by omega),Bool.true_and]
  by_cases g3:y > 1000
  ·rw [if_pos g3,decide_eq_false (show ¬ y≤1000 by omega),Bool.false_and,if_neg (by decide)]
  rw [if_neg g3,if_pos (by omega),decide_eq_true (show y≤1000 by omega),Bool.true_and]
  by_cases g4:f<0
  ·rw [if_pos g4,decide_eq_false (show ¬ 0≤f by omega),Bool.false_and,if_neg (by decide)]
  rw [if_neg g4,decide_eq_true (show 0≤f by omega),Bool.true_and]
  by_cases g5:f > 100
  ·rw [if_pos g5,decide_eq_false (show ¬ f≤100 by omega),if_neg (by decide)]
  rw [if_neg g5,decide_eq_true (show f≤100 by omega),if_pos rfl]) (fun k=>by
  show impl_StoreOk.l1 (k + 1) ((3:Nat):Int) _ _ _ _ _=_
  rw [impl_StoreOk.l1,if_neg (by omega)]) 3 0 (by omega)
 rw [Bool.and_true] at h
 exact h
theorem spec_StoreOk_ev {s:St} (hl:s.now.length≤9223372036854775807∧s.sure.length≤9223372036854775807) (hz:Sized s):Ev (fun k=>spec_StoreOk.f k s.now s.sure s.last s.slast s.floors) (stOk s):=by
 unfold spec_StoreOk.f stOk
 have hj:∀ b:Bool,(b=false→Ev (fun k=>spec_StoreOk.l0 k 0 s.now s.sure s.last s.slast s.floors) (allUp (numOk s) 0 3))→Ev (fun k=>spec_StoreOk.j0 k b s.now s.sure s.last s.slast s.floors) (!b && allUp (numOk s) 0 3):=by
  intro b hb
  cases b
  ·exact Ev.step (fun k=>by rw [spec_StoreOk.j0,if_neg (by decide)]) (hb rfl)
  ·exact Ev.step (f:=fun _=>some false) (fun k=>by rw [spec_StoreOk.j0,if_pos rfl]) (Ev.now _)
 refine Ev.bind (spec_l5Texts_ev hl.1 hz.1) ?_
 cases textsOk s.now
 ·exact hj true (fun h=>by cases h)
 refine Ev.bind (spec_l5Texts_ev hl.2 hz.2) ?_
 cases textsOk s.sure
 ·exact hj true (fun h=>by cases h)
 simp only [if_true,Bool.true_and]
 unfold lensOk
 by_cases h2:s.last.length=3
 ·by_cases h3:s.slast.length=3
  ·refine Ev.congr (f:=fun k=>spec_StoreOk.j0 k ((s.floors.length:Int) != 3) s.now s.sure s.last s.slast s.floors) (fun k=>by rw [if_pos (by omega),if_pos (by omega)]) ?_
   by_cases h4:s.floors.length=3
   ·have e:((s.floors.length:Int) != 3)=false:=by rw [h4];rfl
    rw [e,decide_eq_true h2,decide_eq_true h3,decide_eq_true h4]
    exact hj false (fun _=>spec_nums_ev h2 h3 h4)
   ·have e:((s.floors.length:Int) != 3)=true:=by simp only [bne_iff_ne,ne_eq];omega
    rw [e,decide_eq_false h4,Bool.and_false,Bool.and_false,Bool.false_and]
    exact hj true (fun h=>by cases h)
  ·refine Ev.congr (f:=fun k=>spec_StoreOk.j0 k true s.now s.sure s.last s.slast s.floors) (fun k=>by rw [if_pos (by omega),if_neg (by omega)]) ?_
   rw [decide_eq_false h3,Bool.false_and,Bool.and_false,Bool.false_and]
   exact hj true (fun h=>by cases h)
 ·refine Ev.congr (f:=fun k=>spec_StoreOk.j0 k true s.now s.sure s.last s.slast s.floors) (fun k=>by rw [if_neg (by omega)]) ?_
  rw [decide_eq_false h2,Bool.false_and,Bool.false_and]
  exact hj true (fun h=>by cases h)
theorem impl_texts_ev {s:St} {z:Bool} (h0:s.now.length=3) (h1:s.sure.length=3) (hz:Sized s) (hn:Ev (fun k=>impl_StoreOk.l1 k 0 s.now s.sure s.last s.slast s.floors) z) :
  Ev (fun k=>impl_StoreOk.l0 k 0 s.now s.sure s.last s.slast s.floors) (allUp (fun j=>textOk (s.now.getD j ByteArray.empty) && textOk (s.sure.getD j ByteArray.empty)) 0 3 && z):=by
 have h:=loop_ev (n:=3) (G:=fun k i=>impl_StoreOk.l0 k (i:Int) s.now s.sure s.last s.slast s.floors) (E:=fun j=>textOk (s.now.getD j ByteArray.empty) && textOk (s.sure.getD j ByteArray.empty)) (z:=z) (fun i hi z' hz'=>by
  have hx:s.now.getD i ByteArray.empty=s.now[i]'(by omega):=by simp [List.getD_eq_getElem?_getD,h0,hi]
  have hy:s.sure.getD i ByteArray.empty=s.sure[i]'(by omega):=by simp [List.getD_eq_getElem?_getD,h1,hi]
  refine Ev.step (f:=fun k=>(impl_TextOk.f k (s.now[i]'(by omega))).bind fun t=>if t=true then (impl_TextOk.f k (s.sure[i]'(by omega))).bind fun t2=>if t2=true then impl_StoreOk.l0 k ((i + 1:Nat):Int) s.now s.sure s.last s.slast s.floors else some false else some false) (fun k=>?_) ?_
  ·show impl_StoreOk.l0 (k + 1) (i:Int) _ _ _ _ _=_
   rw [impl_StoreOk.l0,if_pos (by omega),if_pos (by omega),if_pos (by omega),if_pos (by omega),rdOf_nat (l:=s.now) (by omega),rdOf_nat (l:=s.sure) (by omega),w64s hi (by omega)]
  ·refine Ev.bind (impl_TextOk_ev (hz.1 _ (List.getElem_mem (by omega)))) ?_
   rw [hx,hy]
   cases textOk (s.now[i]'(by omega))
   ·exact Ev.now _
   ·simp only [if_true,Bool.true_and]
    refine Ev.bind (impl_TextOk_ev (hz.2 _ (List.getElem_mem (by omega)))) ?_
    cases textOk (s.sure[i]'(by omega))
    ·exact Ev.now _
    ·exact hz') (Ev.step (f:=fun k=>impl_StoreOk.l1 k 0 s.now s.sure s.last s.slast s.floors) (fun k=>by
  show impl_StoreOk.l0 (k + 1) ((3:Nat):Int) _ _ _ _ _=_
  rw [impl_StoreOk.l0,if_neg (by omega)]) hn) 3 0 (by omega)
 exact h
theorem allUp_and {E F:Nat→Bool}:∀ {d i:Nat},allUp (fun j=>E j && F j) i d=(allUp E i d && allUp F i d)
 | 0,_=>rfl
 | d + 1,i=>by
  simp only [allUp,allUp_and]
  cases E i <;> cases F i <;> simp
theorem impl_StoreOk_ev {s:St} (hz:Sized s):Ev (fun k=>impl_StoreOk.f k s.now s.sure s.last s.slast s.floors) (stOk s):=by
 have no:∀ {z:Bool},z=false→Ev (fun k=>impl_StoreOk.j0 k true s.now s.sure s.last s.slast s.floors) z:=by
  rintro z rfl
  exact Ev.step (f:=fun _=>some false) (fun k=>by rw [impl_StoreOk.j0,if_pos rfl]) (Ev.now _)
 unfold impl_StoreOk.f
 by_cases h0:s.now.length=3
 case neg =>
  refine Ev.congr (fun k=>by rw [if_neg (by omega)]) (no ?_)
  simp [stOk,textsOk,h0]
 refine Ev.congr (fun k=>by rw [if_pos (by omega)]) ?_
 by_cases h1:s.sure.length=3
 case neg =>
  refine Ev.congr (fun k=>by rw [if_neg (by omega)]) (no ?_)
  simp [stOk,textsOk,h1]
 refine Ev.congr (fun k=>by rw [if_pos (by omega)]) ?_
 by_cases h2:s.last.length=3
 case neg =>
  refine Ev.congr (fun k=>by rw [if_neg (by omega)]) (no ?_)
  simp [stOk,lensOk,h2]
 refine Ev.congr (fun k=>by rw [if_pos (by omega)]) ?_
 by_cases h3:s.slast.length=3
 case neg =>
  refine Ev.congr (fun k=>by rw [if_neg (by omega)]) (no ?_)
  simp [stOk,lensOk,h3]
 refine Ev.congr (fun k=>by rw [if_pos (by omega)]) ?_
 by_cases h4:s.floors.length=3
 case neg =>
  have e:((s.floors.length:Int) != 3)=true:=by simp only [bne_iff_ne,ne_eq];omega
  rw [e]
  refine no ?_
  simp [stOk,lensOk,h4]
 have e:((s.floors.length:Int) != 3)=false:=by rw [h4];rfl
 rw [e]
 refine Ev.step (f:=fun k=>impl_StoreOk.l0 k 0 s.now s.sure s.last s.slast s.floors) (fun k=>by rw [impl_StoreOk.j0,if_neg (by decide)]) ?_
 have h:=impl_texts_ev h0 h1 hz (impl_nums_ev h2 h3 h4)
 rw [allUp_and] at h
 simp only [stOk,textsOk,lensOk,h0,h1,h2,h3,h4,decide_true,Bool.and_true,Bool.true_and]
 rw [Bool.and_assoc] at h
 exact h
theorem spec_StoreOk_c {w:World} {v:Value} {s:St} (hv:StC w v s) (hz:Sized s) :
  Calls Try.prog 19 #[v] w fun e w'=>e = .returned (.bool (stOk s))∧Below w.heap.size w w':=by
 obtain ⟨k,hk⟩:=(spec_StoreOk_ev ⟨hv.lens.1,hv.lens.2.1⟩ hz).rounds
 obtain ⟨A0,c0,A1,c1,A2,c2,A3,c3,A4,c4,rfl,g0,g1,g2,g3,g4⟩:=hv
 exact spec_StoreOk.calls k A0 c0 s.now A1 c1 s.sure A2 c2 s.last A3 c3 s.slast A4 c4 s.floors _ w g0.1 g0.2 g1.1 g1.2 g2.1 g2.2 g3.1 g3.2 g4.1 g4.2 hk
theorem impl_StoreOk_c {w:World} {v:Value} {s:St} (hv:StC w v s) (hz:Sized s) :
  Calls Try.prog 23 #[v] w fun e w'=>e = .returned (.bool (stOk s))∧Below w.heap.size w w':=by
 obtain ⟨k,hk⟩:=(impl_StoreOk_ev hz).rounds
 obtain ⟨A0,c0,A1,c1,A2,c2,A3,c3,A4,c4,rfl,g0,g1,g2,g3,g4⟩:=hv
 exact impl_StoreOk.calls k A0 c0 s.now A1 c1 s.sure A2 c2 s.last A3 c3 s.slast A4 c4 s.floors _ w g0.1 g0.2 g1.1 g1.2 g2.1 g2.2 g3.1 g3.2 g4.1 g4.2 hk
theorem spec_StoreOk_q {w:World} {v:Value} {s:St} {q:Bool} (hv:StC w v s) (hz:Sized s) (hq:stOk s=q) :
  Calls Try.prog 19 #[v] w fun e w'=>e = .returned (.bool q)∧Below w.heap.size w w':=hq ▸ spec_StoreOk_c hv hz
theorem impl_StoreOk_q {w:World} {v:Value} {s:St} {q:Bool} (hv:StC w v s) (hz:Sized s) (hq:stOk s=q) :
  Calls Try.prog 23 #[v] w fun e w'=>e = .returned (.bool q)∧Below w.heap.size w w':=hq ▸ impl_StoreOk_c hv hz
end Go.Proofs.Ytmekkapacbdbeaa.P
namespace Go.Proofs.Ytmekkapacbdbeaa.P
open Go.RowKit Go.Proofs.YtmekkapacbdbeaaW.PrintWords Go.Proofs.YtmekkapacbdbeaaW.PrintLast Go.Proofs.YtmekkapacbdbeaaW.PrintMore
attribute [local go_sem] max2_int min2_int max_two min_two max_three min_three max_four min_four 
def spec_StoreNew.f : Option (List ByteArray × List ByteArray × List Int × List Int × List Int):=if 3≤17592186044416 then (if 3≤35184372088832 then (some ((List.replicate 3 (⟨#[]⟩:ByteArray)),(List.replicate 3 (⟨#[]⟩:ByteArray)),(List.replicate 3 0),(List.replicate 3 0),(List.replicate 3 0))) else (none)) else (none)
def spec_StoreNew.T1:Bool × List (List Nat × List Nat):=(true,[([],[]),([],[]),([],[]),([],[]),([],[]),([0,1,2,3,4],[0,1,2,3,4]),([5,0,1,2,3,4,5],[5])])
def spec_StoreNew.B1:List Nat:=[0,0,0,0,0,31,63]
theorem spec_StoreNew.tab1:rtab .any (opsOf Try.f29 1)=spec_StoreNew.T1:=by kernel_rfl
theorem spec_StoreNew.bits1:waitsOk spec_StoreNew.T1.2 spec_StoreNew.B1=true:=by kernel_rfl
end Go.Proofs.Ytmekkapacbdbeaa.P
namespace Go.Proofs.Ytmekkapacbdbeaa.P
open Go.RowKit Go.Proofs.YtmekkapacbdbeaaW.PrintWords Go.Proofs.YtmekkapacbdbeaaW.PrintLast Go.Proofs.YtmekkapacbdbeaaW.PrintMore
theorem spec_StoreNew.calls (r1:List ByteArray) (r2:List ByteArray) (r3:List Int) (r4:List Int) (r5:List Int) (w:World) (h:spec_StoreNew.f = some (r1,r2,r3,r4,r5)) :
  Calls Try.prog 29 #[] w fun e w'=>∃ v0_ v1_ v2_ v3_ v4_:Value,e = .returned (.agg #[v0_,v1_,v2_,v3_,v4_])∧Kd.R Kd.string 9 w' w.heap.size (fun k_=>some k_ ≠ (v1_:Value).ownBlock) v0_ r1∧Kd.R Kd.string 9 w' w.heap.size (fun k_=>some k_ ≠ (v0_:Value).ownBlock) v1_ r2∧Kd.R (Kd.int .i64) 3 w' w.heap.size (fun k_=>some k_ ≠ (v3_:Value).ownBlock∧some k_ ≠ (v4_:Value).ownBlock) v2_ r3∧Kd.R (Kd.int .i64) 3 w' w.heap.size (fun k_=>some k_ ≠ (v2_:Value).ownBlock∧some k_ ≠ (v4_:Value).ownBlock) v3_ r4∧Kd.R (Kd.int .i64) 3 w' w.heap.size (fun k_=>some k_ ≠ (v2_:Value).ownBlock∧some k_ ≠ (v3_:Value).ownBlock) v4_ r5∧Below w.heap.size w w':=by
 unfold spec_StoreNew.f at h
 rw [if_pos (by decide),if_pos (by decide)] at h
 simp only [Option.some.injEq,Prod.mk.injEq] at h
 obtain ⟨rfl,rfl,rfl,rfl,rfl⟩:=h
 have hu:=Try.underlying26
 go_enter Try.func29,Try.ntmps29
 go_wp2_with (first|((with_reducible refine gate_dst (N:=0) rfl ?_);refine ev_box ?hg (N:=0) ?hd (cs:=#[.slice none 0 0,.slice none 0 0,.slice none 0 0,.slice none 0 0,.slice none 0 0]) (t:=26) ?hr ?_;(case hd=>rfl);(case hg=>rfl);(case hr=>first|(go_simp;done)|(go_simp;rfl));intro g2 W1 HG2 BK2 HB2))
 have HBw:=HB2
 refine start_ (n:=7) (S:=fun w'=>True) (ds:=[]) #[false,false,false,false,false,false,false] (by kernel_rfl) rfl rfl trivial (fun hHeld=>?_)
 clear hHeld
 refine with_tabW spec_StoreNew.tab1 spec_StoreNew.bits1 (fun HT_ HW_=>?_)
 have BK2':Aside0 (Bk W1.drew g2 #[.slice none 0 0,.slice none 0 0,.slice none 0 0,.slice none 0 0,.slice none 0 0] 26):=⟨BK2.out⟩
 have HBd:=Ak (below_drew1 HBw.out)
 have HGE:Aside0 (w.heap.size≤g2):=⟨by have h1:=HG2.out;omega⟩
 generalize W1.drew=w4 at BK2' HBd ⊢
 clear HBw BK2 HB2
 refine inv_at [0,1,2,3,4,5,6] (fun a0_ b a w'=>∃ (v0:Value) (v1:Value) (v2:Value) (v3:Value) (v4:Value) (m:Value) (D:Nat→Nat→Prop),a=putSel a0_ b [(0,1,v0),(1,2,v1),(2,3,v2),(3,4,v3),(4,5,v4),(5,6,m)]∧Below w.heap.size w w'∧(b 6=false→Bk w' g2 #[.slice none 0 0,.slice none 0 0,.slice none 0 0,.slice none 0 0,.slice none 0 0] 26)∧(b 6=true→Bk w' g2 #[v0,v1,v2,v3,v4] 26)∧(b 5=true→m = .agg #[v0,v1,v2,v3,v4])∧(∀ i j k,D i k→D j k→i=j)∧(∀ i k,D i k→k<w'.heap.size)∧(b 0=true→Kd.R Kd.string 9 w' w.heap.size (D 0) v0 (List.replicate 3 (⟨#[]⟩:ByteArray)))∧(b 1=true→Kd.R Kd.string 9 w' w.heap.size (D 1) v1 (List.replicate 3 (⟨#[]⟩:ByteArray)))∧(b 2=true→Kd.R (Kd.int .i64) 3 w' w.heap.size (D 2) v2 (List.replicate 3 0))∧(b 3=true→Kd.R (Kd.int .i64) 3 w' w.heap.size (D 3) v3 (List.replicate 3 0))∧(b 4=true→Kd.R (Kd.int .i64) 3 w' w.heap.size (D 4) v4 (List.replicate 3 0))) HT_.out HW_.out (by kernel_rfl) (by kernel_rfl) ?_ ?_ ?_
 ·exact ⟨.bool false,.bool false,.bool false,.bool false,.bool false,.bool false,fun _ _=>False,by simp only [putSel,Bool.false_eq_true,if_false],HBd.out,fun _=>BK2'.out,fun h_=>absurd h_ (by decide),fun h_=>absurd h_ (by decide),fun _ _ _ h_=>h_.elim,fun _ _ h_=>h_.elim,fun h_=>absurd h_ (by decide),fun h_=>absurd h_ (by decide),fun h_=>absurd h_ (by decide),fun h_=>absurd h_ (by decide),fun h_=>absurd h_ (by decide)⟩
 ·clear BK2' HBd
  refine steps_cons ?_ ?_
  ·rintro b a w' ⟨v0,v1,v2,v3,v4,m,D,ha,HB,Qz,Qe,Qm,QD,QL,QV0,QV1,QV2,QV3,QV4⟩ hb_ hon hoff
   refine ⟨_,rfl,fun K hK=>?_⟩
   refine Kd.R_make_step Kd.string (w0:=w') w'.heap.size 9 (by rfl) (N:=1) rfl 23 _ _ rfl 3 rfl rfl Try.underlying23 (.string ⟨#[]⟩) 16 info9 rfl (by decide) (by omega) (⟨#[]⟩:ByteArray) (ok:=fun k=>k=w'.heap.size∨w'.heap.size≤k) (okp:=fun _=>False) rfl (fun _ hk=>hk.elim) (.inl rfl) (by omega) (by omega) (Below.refl _ _) (Nat.le_refl _) ?_
   intro x w5 ho hb5 hg5 hn5
   have hfit:=HB.size
   obtain ⟨D',hDi,hDj⟩:∃ D':Nat→Nat→Prop,(∀ k,D' 0 k↔w'.heap.size≤k∧k<w5.heap.size)∧∀ j,j ≠ 0→∀ k,D' j k↔D j k:=⟨fun j k=>if j=0 then w'.heap.size≤k∧k<w5.heap.size else D j k,fun k=>by simp,fun j hj k=>by simp [hj]⟩
   have hold:∀ j,j ≠ 0→∀ k,D j k→D' j k:=fun j hj k hk=>(hDj j hj k).2 hk
   have hDD:∀ i j k,D' i k→D' j k→i=j:=newD QD QL hDi hDj
   have hLL:∀ i k,D' i k→k<w5.heap.size:=newL QL hDi hDj hb5.size
   have hnew:=R_raise (b':=w.heap.size) (ok':=D' 0) ho (fun k hk=>⟨by have:=Kd.R_base ho k hk;omega,(hDi k).2 ⟨Kd.R_base ho k hk,Kd.R_lt ho k hk⟩⟩)
   refine hK.out _ _ ⟨x,v1,v2,v3,v4,m,D',(by rw [ha];exact putSel_upk 0 hb_ rfl rfl rfl),below_step HB hb5,fun h_=>Bk.below (Qz h_) hb5,fun h0_=>absurd ((hoff 6 (by kernel_rfl)).symm.trans h0_) (by decide),fun h0_=>absurd ((hoff 5 (by kernel_rfl)).symm.trans h0_) (by decide),hDD,hLL,fun _=>hnew,fun h_=>Kd.R_mono (Kd.R_below (QV1 h_) hb5) (fun k hk=>hold 1 (by decide) k hk),fun h_=>Kd.R_mono (Kd.R_below (QV2 h_) hb5) (fun k hk=>hold 2 (by decide) k hk),fun h_=>Kd.R_mono (Kd.R_below (QV3 h_) hb5) (fun k hk=>hold 3 (by decide) k hk),fun h_=>Kd.R_mono (Kd.R_below (QV4 h_) hb5) (fun k hk=>hold 4 (by decide) k hk)⟩
  refine steps_cons ?_ ?_
  ·rintro b a w' ⟨v0,v1,v2,v3,v4,m,D,ha,HB,Qz,Qe,Qm,QD,QL,QV0,QV1,QV2,QV3,QV4⟩ hb_ hon hoff
   refine ⟨_,rfl,fun K hK=>?_⟩
   refine Kd.R_make_step Kd.string (w0:=w') w'.heap.size 9 (by rfl) (N:=2) rfl 23 _ _ rfl 3 rfl rfl Try.underlying23 (.string ⟨#[]⟩) 16 info9 rfl (by decide) (by omega) (⟨#[]⟩:ByteArray) (ok:=fun k=>k=w'.heap.size∨w'.heap.size≤k) (okp:=fun _=>False) rfl (fun _ hk=>hk.elim) (.inl rfl) (by omega) (by omega) (Below.refl _ _) (Nat.le_refl _) ?_
   intro x w5 ho hb5 hg5 hn5
   have hfit:=HB.size
   obtain ⟨D',hDi,hDj⟩:∃ D':Nat→Nat→Prop,(∀ k,D' 1 k↔w'.heap.size≤k∧k<w5.heap.size)∧∀ j,j ≠ 1→∀ k,D' j k↔D j k:=⟨fun j k=>if j=1 then w'.heap.size≤k∧k<w5.heap.size else D j k,fun k=>by simp,fun j hj k=>by simp [hj]⟩
   have hold:∀ j,j ≠ 1→∀ k,D j k→D' j k:=fun j hj k hk=>(hDj j hj k).2 hk
   have hDD:∀ i j k,D' i k→D' j k→i=j:=newD QD QL hDi hDj
   have hLL:∀ i k,D' i k→k<w5.heap.size:=newL QL hDi hDj hb5.size
   have hnew:=R_raise (b':=w.heap.size) (ok':=D' 1) ho (fun k hk=>⟨by have:=Kd.R_base ho k hk;omega,(hDi k).2 ⟨Kd.R_base ho k hk,Kd.R_lt ho k hk⟩⟩)
   refine hK.out _ _ ⟨v0,x,v2,v3,v4,m,D',(by rw [ha];exact putSel_upk 1 hb_ rfl rfl rfl),below_step HB hb5,fun h_=>Bk.below (Qz h_) hb5,fun h0_=>absurd ((hoff 6 (by kernel_rfl)).symm.trans h0_) (by decide),fun h0_=>absurd ((hoff 5 (by kernel_rfl)).symm.trans h0_) (by decide),hDD,hLL,fun h_=>Kd.R_mono (Kd.R_below (QV0 h_) hb5) (fun k hk=>hold 0 (by decide) k hk),fun _=>hnew,fun h_=>Kd.R_mono (Kd.R_below (QV2 h_) hb5) (fun k hk=>hold 2 (by decide) k hk),fun h_=>Kd.R_mono (Kd.R_below (QV3 h_) hb5) (fun k hk=>hold 3 (by decide) k hk),fun h_=>Kd.R_mono (Kd.R_below (QV4 h_) hb5) (fun k hk=>hold 4 (by decide) k hk)⟩
  refine steps_cons ?_ ?_
  ·rintro b a w' ⟨v0,v1,v2,v3,v4,m,D,ha,HB,Qz,Qe,Qm,QD,QL,QV0,QV1,QV2,QV3,QV4⟩ hb_ hon hoff
   refine ⟨_,rfl,fun K hK=>?_⟩
   refine Kd.R_make_step (Kd.int .i64) (w0:=w') w'.heap.size 3 (by rfl) (N:=3) rfl 24 _ _ rfl 3 rfl rfl Try.underlying24 (.int .i64 0) 8 info3 rfl (by decide) (by omega) 0 (ok:=fun k=>k=w'.heap.size∨w'.heap.size≤k) (okp:=fun _=>False) rfl (fun _ hk=>hk.elim) (.inl rfl) (by omega) (by omega) (Below.refl _ _) (Nat.le_refl _) ?_
   intro x w5 ho hb5 hg5 hn5
   have hfit:=HB.size
   obtain ⟨D',hDi,hDj⟩:∃ D':Nat→Nat→Prop,(∀ k,D' 2 k↔w'.heap.size≤k∧k<w5.heap.size)∧∀ j,j ≠ 2→∀ k,D' j k↔D j k:=⟨fun j k=>if j=2 then w'.heap.size≤k∧k<w5.heap.size else D j k,fun k=>by simp,fun j hj k=>by simp [hj]⟩
   have hold:∀ j,j ≠ 2→∀ k,D j k→D' j k:=fun j hj k hk=>(hDj j hj k).2 hk
   have hDD:∀ i j k,D' i k→D' j k→i=j:=newD QD QL hDi hDj
   have hLL:∀ i k,D' i k→k<w5.heap.size:=newL QL hDi hDj hb5.size
   have hnew:=R_raise (b':=w.heap.size) (ok':=D' 2) ho (fun k hk=>⟨by have:=Kd.R_base ho k hk;omega,(hDi k).2 ⟨Kd.R_base ho k hk,Kd.R_lt ho k hk⟩⟩)
   refine hK.out _ _ ⟨v0,v1,x,v3,v4,m,D',(by rw [ha];exact putSel_upk 2 hb_ rfl rfl rfl),below_step HB hb5,fun h_=>Bk.below (Qz h_) hb5,fun h0_=>absurd ((hoff 6 (by kernel_rfl)).symm.trans h0_) (by decide),fun h0_=>absurd ((hoff 5 (by kernel_rfl)).symm.trans h0_) (by decide),hDD,hLL,fun h_=>Kd.R_mono (Kd.R_below (QV0 h_) hb5) (fun k hk=>hold 0 (by decide) k hk),fun h_=>Kd.R_mono (Kd.R_below (QV1 h_) hb5) (fun k hk=>hold 1 (by decide) k hk),fun _=>hnew,fun h_=>Kd.R_mono (Kd.R_below (QV3 h_) hb5) (fun k hk=>hold 3 (by decide) k hk),fun h_=>Kd.R_mono (Kd.R_below (QV4 h_) hb5) (fun k hk=>hold 4 (by decide) k hk)⟩
  refine steps_cons ?_ ?_
  ·rintro b a w' ⟨v0,v1,v2,v3,v4,m,D,ha,HB,Qz,Qe,Qm,QD,QL,QV0,QV1,QV2,QV3,QV4⟩ hb_ hon hoff
   refine ⟨_,rfl,fun K hK=>?_⟩
   refine Kd.R_make_step (Kd.int .i64) (w0:=w') w'.heap.size 3 (by rfl) (N:=4) rfl 24 _ _ rfl 3 rfl rfl Try.underlying24 (.int .i64 0) 8 info3 rfl (by decide) (by omega) 0 (ok:=fun k=>k=w'.heap.size∨w'.heap.size≤k) (okp:=fun _=>False) rfl (fun _ hk=>hk.elim) (.inl rfl) (by omega) (by omega) (Below.refl _ _) (Nat.le_refl _) ?_
   intro x w5 ho hb5 hg5 hn5
   have hfit:=HB.size
   obtain ⟨D',hDi,hDj⟩:∃ D':Nat→Nat→Prop,(∀ k,D' 3 k↔w'.heap.size≤k∧k<w5.heap.size)∧∀ j,j ≠ 3→∀ k,D' j k↔D j k:=⟨fun j k=>if j=3 then w'.heap.size≤k∧k<w5.heap.size else D j k,fun k=>by simp,fun j hj k=>by simp [hj]⟩
   have hold:∀ j,j ≠ 3→∀ k,D j k→D' j k:=fun j hj k hk=>(hDj j hj k).2 hk
   have hDD:∀ i j k,D' i k→D' j k→i=j:=newD QD QL hDi hDj
   have hLL:∀ i k,D' i k→k<w5.heap.size:=newL QL hDi hDj hb5.size
   have hnew:=R_raise (b':=w.heap.size) (ok':=D' 3) ho (fun k hk=>⟨by have:=Kd.R_base ho k hk;omega,(hDi k).2 ⟨Kd.R_base ho k hk,Kd.R_lt ho k hk⟩⟩)
   refine hK.out _ _ ⟨v0,v1,v2,x,v4,m,D',(by rw [ha];exact putSel_upk 3 hb_ rfl rfl rfl),below_step HB hb5,fun h_=>Bk.below (Qz h_) hb5,fun h0_=>absurd ((hoff 6 (by kernel_rfl)).symm.trans h0_) (by decide),fun h0_=>absurd ((hoff 5 (by kernel_rfl)).symm.trans h0_) (by decide),hDD,hLL,fun h_=>Kd.R_mono (Kd.R_below (QV0 h_) hb5) (fun k hk=>hold 0 (by decide) k hk),fun h_=>Kd.R_mono (Kd.R_below (QV1 h_) hb5) (fun k hk=>hold 1 (by decide) k hk),fun h_=>Kd.R_mono (Kd.R_below (QV2 h_) hb5) (fun k hk=>hold 2 (by decide) k hk),fun _=>hnew,fun h_=>Kd.R_mono (Kd.R_below (QV4 h_) hb5) (fun k hk=>hold 4 (by decide) k hk)⟩
  refine steps_cons ?_ ?_
  ·rintro b a w' ⟨v0,v1,v2,v3,v4,m,D,ha,HB,Qz,Qe,Qm,QD,QL,QV0,QV1,QV2,QV3,QV4⟩ hb_ hon hoff
   refine ⟨_,rfl,fun K hK=>?_⟩
   refine Kd.R_make_step (Kd.int .i64) (w0:=w') w'.heap.size 3 (by rfl) (N:=5) rfl 24 _ _ rfl 3 rfl rfl Try.underlying24 (.int .i64 0) 8 info3 rfl (by decide) (by omega) 0 (ok:=fun k=>k=w'.heap.size∨w'.heap.size≤k) (okp:=fun _=>False) rfl (fun _ hk=>hk.elim) (.inl rfl) (by omega) (by omega) (Below.refl _ _) (Nat.le_refl _) ?_
   intro x w5 ho hb5 hg5 hn5
   have hfit:=HB.size
   obtain ⟨D',hDi,hDj⟩:∃ D':Nat→Nat→Prop,(∀ k,D' 4 k↔w'.heap.size≤k∧k<w5.heap.size)∧∀ j,j ≠ 4→∀ k,D' j k↔D j k:=⟨fun j k=>if j=4 then w'.heap.size≤k∧k<w5.heap.size else D j k,fun k=>by simp,fun j hj k=>by simp [hj]⟩
   have hold:∀ j,j ≠ 4→∀ k,D j k→D' j k:=fun j hj k hk=>(hDj j hj k).2 hk
   have hDD:∀ i j k,D' i k→D' j k→i=j:=newD QD QL hDi hDj
   have hLL:∀ i k,D' i k→k<w5.heap.size:=newL QL hDi hDj hb5.size
   have hnew:=R_raise (b':=w.heap.size) (ok':=D' 4) ho (fun k hk=>⟨by have:=Kd.R_base ho k hk;omega,(hDi k).2 ⟨Kd.R_base ho k hk,Kd.R_lt ho k hk⟩⟩)
   refine hK.out _ _ ⟨v0,v1,v2,v3,x,m,D',(by rw [ha];exact putSel_upk 4 hb_ rfl rfl rfl),below_step HB hb5,fun h_=>Bk.below (Qz h_) hb5,fun h0_=>absurd ((hoff 6 (by kernel_rfl)).symm.trans h0_) (by decide),fun h0_=>absurd ((hoff 5 (by kernel_rfl)).symm.trans h0_) (by decide),hDD,hLL,fun h_=>Kd.R_mono (Kd.R_below (QV0 h_) hb5) (fun k hk=>hold 0 (by decide) k hk),fun h_=>Kd.R_mono (Kd.R_below (QV1 h_) hb5) (fun k hk=>hold 1 (by decide) k hk),fun h_=>Kd.R_mono (Kd.R_below (QV2 h_) hb5) (fun k hk=>hold 2 (by decide) k hk),fun h_=>Kd.R_mono (Kd.R_below (QV3 h_) hb5) (fun k hk=>hold 3 (by decide) k hk),fun _=>hnew⟩
  refine steps_cons ?_ ?_
  ·rintro b a w' ⟨v0,v1,v2,v3,v4,m,D,ha,HB,Qz,Qe,Qm,QD,QL,QV0,QV1,QV2,QV3,QV4⟩ hb_ hon hoff
   refine ⟨_,rfl,fun K hK=>?_⟩
   have e0:a.tmps[1]?=some v0:=by rw [ha];exact putSel_on (e:=(0,1,v0)) 0 rfl rfl (hon 0 (by kernel_rfl)) rfl
   have e1:a.tmps[2]?=some v1:=by rw [ha];exact putSel_on (e:=(1,2,v1)) 1 rfl rfl (hon 1 (by kernel_rfl)) rfl
   have e2:a.tmps[3]?=some v2:=by rw [ha];exact putSel_on (e:=(2,3,v2)) 2 rfl rfl (hon 2 (by kernel_rfl)) rfl
   have e3:a.tmps[4]?=some v3:=by rw [ha];exact putSel_on (e:=(3,4,v3)) 3 rfl rfl (hon 3 (by kernel_rfl)) rfl
   have e4:a.tmps[5]?=some v4:=by rw [ha];exact putSel_on (e:=(4,5,v4)) 4 rfl rfl (hon 4 (by kernel_rfl)) rfl
   replace ha:=Ak ha
   obtain ⟨A0,c0,eo_⟩:=Kd.R_slice (QV0 (hon 0 (by kernel_rfl)))
   subst eo_
   obtain ⟨A1,c1,eo_⟩:=Kd.R_slice (QV1 (hon 1 (by kernel_rfl)))
   subst eo_
   obtain ⟨A2,c2,eo_⟩:=Kd.R_slice (QV2 (hon 2 (by kernel_rfl)))
   subst eo_
   obtain ⟨A3,c3,eo_⟩:=Kd.R_slice (QV3 (hon 3 (by kernel_rfl)))
   subst eo_
   obtain ⟨A4,c4,eo_⟩:=Kd.R_slice (QV4 (hon 4 (by kernel_rfl)))
   subst eo_
   refine value_ (w1:=w') (v:=.agg #[.slice A0 (List.replicate 3 (⟨#[]⟩:ByteArray)).length c0,.slice A1 (List.replicate 3 (⟨#[]⟩:ByteArray)).length c1,.slice A2 (List.replicate 3 0).length c2,.slice A3 (List.replicate 3 0).length c3,.slice A4 (List.replicate 3 0).length c4]) (by rfl) rfl ?_ ?_
   ·go_simp
    try rfl
   refine hK.out _ _ ⟨.slice A0 (List.replicate 3 (⟨#[]⟩:ByteArray)).length c0,.slice A1 (List.replicate 3 (⟨#[]⟩:ByteArray)).length c1,.slice A2 (List.replicate 3 0).length c2,.slice A3 (List.replicate 3 0).length c3,.slice A4 (List.replicate 3 0).length c4,(.agg #[.slice A0 (List.replicate 3 (⟨#[]⟩:ByteArray)).length c0,.slice A1 (List.replicate 3 (⟨#[]⟩:ByteArray)).length c1,.slice A2 (List.replicate 3 0).length c2,.slice A3 (List.replicate 3 0).length c3,.slice A4 (List.replicate 3 0).length c4]),D,(by rw [ha.out];exact putSel_upk 5 hb_ rfl rfl rfl),HB,Qz,fun h0_=>absurd ((hoff 6 (by kernel_rfl)).symm.trans h0_) (by decide),fun _=>rfl,QD,QL,QV0,QV1,QV2,QV3,QV4⟩
  refine steps_cons ?_ ?_
  ·rintro b a w' ⟨v0,v1,v2,v3,v4,m,D,ha,HB,Qz,Qe,Qm,QD,QL,QV0,QV1,QV2,QV3,QV4⟩ hb_ hon hoff
   refine ⟨_,rfl,fun K hK=>?_⟩
   have e0:a.tmps[0]?=some (.pointer (some ⟨g2,0,none⟩)):=by rw [ha];exact (putSel_off rfl).trans rfl
   have e6:a.tmps[6]?=some m:=by rw [ha];exact putSel_on (e:=(5,6,m)) 5 rfl rfl (hon 5 (by kernel_rfl)) rfl
   rw [Qm (hon 5 (by kernel_rfl))] at e6
   have hone0:(v0:Value).oneCell'=true:=by obtain ⟨A_,c_,e_⟩:=Kd.R_slice (QV0 (hon 0 (by kernel_rfl)));rw [e_];rfl
   have hone1:(v1:Value).oneCell'=true:=by obtain ⟨A_,c_,e_⟩:=Kd.R_slice (QV1 (hon 1 (by kernel_rfl)));rw [e_];rfl
   have hone2:(v2:Value).oneCell'=true:=by obtain ⟨A_,c_,e_⟩:=Kd.R_slice (QV2 (hon 2 (by kernel_rfl)));rw [e_];rfl
   have hone3:(v3:Value).oneCell'=true:=by obtain ⟨A_,c_,e_⟩:=Kd.R_slice (QV3 (hon 3 (by kernel_rfl)));rw [e_];rfl
   have hone4:(v4:Value).oneCell'=true:=by obtain ⟨A_,c_,e_⟩:=Kd.R_slice (QV4 (hon 4 (by kernel_rfl)));rw [e_];rfl
   have hty0:=(Kd.R_ne (QV0 (hon 0 (by kernel_rfl))) (Qz hb_) (by decide):some g2 ≠ (v0:Value).ownBlock)
   have hty1:=(Kd.R_ne (QV1 (hon 1 (by kernel_rfl))) (Qz hb_) (by decide):some g2 ≠ (v1:Value).ownBlock)
   have hty2:=(Kd.R_ne (QV2 (hon 2 (by kernel_rfl))) (Qz hb_) (by decide):some g2 ≠ (v2:Value).ownBlock)
   have hty3:=(Kd.R_ne (QV3 (hon 3 (by kernel_rfl))) (Qz hb_) (by decide):some g2 ≠ (v3:Value).ownBlock)
   have hty4:=(Kd.R_ne (QV4 (hon 4 (by kernel_rfl))) (Qz hb_) (by decide):some g2 ≠ (v4:Value).ownBlock)
   refine wp_storeRow_step (by rfl) rfl rfl (eval_of e0) (eval_of e6) (Qz hb_) (by kernel_rfl) rfl (by simp [hone0,hone1,hone2,hone3,hone4]) ?_
   intro w5 hk5 hg5
   refine hK.out _ _ ⟨v0,v1,v2,v3,v4,m,D,(by rw [ha];exact putSel_none (v:=undef) rfl),below_row HB hg5 HGE.out,fun h_=>absurd h_ (by rw [up_self];decide),fun _=>hk5,Qm,QD,fun i k hk=>by have:=QL i k hk;have:=hg5.2;omega,fun h_=>R_row (fun h=>h) (QV0 h_) hg5 hty0,fun h_=>R_row (fun h=>h) (QV1 h_) hg5 hty1,fun h_=>R_row (fun h=>h) (QV2 h_) hg5 hty2,fun h_=>R_row (fun h=>h) (QV3 h_) hg5 hty3,fun h_=>R_row (fun h=>h) (QV4 h_) hg5 hty4⟩
  exact steps_nil
 rintro b a w25 hall ⟨v0,v1,v2,v3,v4,m,D,ha,HB,Qz,Qe,Qm,QD,QL,QV0,QV1,QV2,QV3,QV4⟩
 have hb0_:=hall 0 (by kernel_rfl)
 have hb1_:=hall 1 (by kernel_rfl)
 have hb2_:=hall 2 (by kernel_rfl)
 have hb3_:=hall 3 (by kernel_rfl)
 have hb4_:=hall 4 (by kernel_rfl)
 have hb5_:=hall 5 (by kernel_rfl)
 have hb6_:=hall 6 (by kernel_rfl)
 subst ha
 obtain rfl:=Qm hb5_
 simp only [putSel,hb0_,hb1_,hb2_,hb3_,hb4_,hb5_,hb6_,if_true,Act.put,zzA,zzB,zzC]
 have HV0:=Ak (QV0 hb0_)
 have HV1:=Ak (QV1 hb1_)
 have HV2:=Ak (QV2 hb2_)
 have HV3:=Ak (QV3 hb3_)
 have HV4:=Ak (QV4 hb4_)
 have BKf:=Ak (Qe hb6_)
 have HBf:=Ak HB
 have HDf:=Ak QD
 clear Qz Qe Qm QD QL HB QV0 QV1 QV2 QV3 QV4 hall hb0_ hb1_ hb2_ hb3_ hb4_ hb5_ hb6_
 try go_wp2
 refine bodyPost_ret (results_cell_row rfl _ _ g2 26 #[v0,v1,v2,v3,v4] (0,0) _ rfl BKf.out Try.underlying26 rfl (by kernel_rfl)) rfl ?_
 have o0:=HV0.out.1
 have o1:=HV1.out.1
 have o2:=HV2.out.1
 have o3:=HV3.out.1
 have o4:=HV4.out.1
 exact ⟨v0,v1,v2,v3,v4,rfl,R_raise HV0.out (fun k hk=>⟨Kd.R_base HV0.out k hk,(fun e_=>absurd (HDf.out 0 1 k (o0 k hk) (o1 k e_.symm)) (by decide))⟩),R_raise HV1.out (fun k hk=>⟨Kd.R_base HV1.out k hk,(fun e_=>absurd (HDf.out 1 0 k (o1 k hk) (o0 k e_.symm)) (by decide))⟩),R_raise HV2.out (fun k hk=>⟨Kd.R_base HV2.out k hk,⟨(fun e_=>absurd (HDf.out 2 3 k (o2 k hk) (o3 k e_.symm)) (by decide)),(fun e_=>absurd (HDf.out 2 4 k (o2 k hk) (o4 k e_.symm)) (by decide))⟩⟩),R_raise HV3.out (fun k hk=>⟨Kd.R_base HV3.out k hk,⟨(fun e_=>absurd (HDf.out 3 2 k (o3 k hk) (o2 k e_.symm)) (by decide)),(fun e_=>absurd (HDf.out 3 4 k (o3 k hk) (o4 k e_.symm)) (by decide))⟩⟩),R_raise HV4.out (fun k hk=>⟨Kd.R_base HV4.out k hk,⟨(fun e_=>absurd (HDf.out 4 2 k (o4 k hk) (o2 k e_.symm)) (by decide)),(fun e_=>absurd (HDf.out 4 3 k (o4 k hk) (o3 k e_.symm)) (by decide))⟩⟩),HBf.out⟩
end Go.Proofs.Ytmekkapacbdbeaa.P
namespace Go.Proofs.Ytmekkapacbdbeaa.P
open Go.RowKit Go.Proofs.YtmekkapacbdbeaaW.PrintWords Go.Proofs.YtmekkapacbdbeaaW.PrintLast Go.Proofs.YtmekkapacbdbeaaW.PrintMore
attribute [local go_sem] max2_int min2_int max_two min_two max_three min_three max_four min_four 
end Go.Proofs.Ytmekkapacbdbeaa.P
namespace Go.Proofs.Ytmekkapacbdbeaa.P
open Go.RowKit Go.Proofs.YtmekkapacbdbeaaW.PrintWords Go.Proofs.YtmekkapacbdbeaaW.PrintLast Go.Proofs.YtmekkapacbdbeaaW.PrintMore
end Go.Proofs.Ytmekkapacbdbeaa.P
namespace Go.Proofs.Ytmekkapacbdbeaa.P
open Go.RowKit Go.Proofs.YtmekkapacbdbeaaW.PrintWords Go.Proofs.YtmekkapacbdbeaaW.PrintLast Go.Proofs.YtmekkapacbdbeaaW.PrintMore
attribute [local go_sem] max2_int min2_int max_two min_two max_three min_three max_four min_four 
def spec_l5Copy.f (l0_0:List ByteArray) (l0_1:List ByteArray) (l0_2:List Int) (l0_3:List Int) (l0_4:List Int):Option (List ByteArray × List ByteArray × List Int × List Int × List Int):=(some (([]:List ByteArray):List ByteArray)).bind fun y106=>(if y106.length + l0_0.length<8796093022208 then ((some (([]:List ByteArray):List ByteArray)).bind fun y112=>(if y112.length + l0_1.length<8796093022208 then ((some (([]:List Int):List Int)).bind fun y118=>(if y118.length + l0_2.length<17592186044416 then ((some (([]:List Int):List Int)).bind fun y124=>(if y124.length + l0_3.length<17592186044416 then ((some (([]:List Int):List Int)).bind fun y130=>(if y130.length + l0_4.length<17592186044416 then (some ((y106 ++ l0_0),(y112 ++ l0_1),(y118 ++ l0_2),(y124 ++ l0_3),(y130 ++ l0_4))) else (none))) else (none))) else (none))) else (none))) else (none))
def spec_l5Copy.T1:Bool × List (List Nat × List Nat):=(true,[([],[]),([],[]),([1],[1]),([0,2],[0,2]),([],[]),([],[]),([5],[5]),([4,6,3],[4,6]),([],[]),([],[]),([9],[9]),([8,10,7],[8,10]),([],[]),([],[]),([13],[13]),([12,14,11],[12,14]),([],[]),([],[]),([17],[17]),([16,18,15],[16,18]),([3,7,11,15,19],[3,7,11,15,19]),([20,19,0,1,2,3,4,5,6,7,8,9,10,11,12,13,14,15,16,17,18,19,20],[20])])
def spec_l5Copy.B1:List Nat:=[0,0,2,7,0,0,32,127,0,0,512,2047,0,0,8192,32767,0,0,131072,524287,1048575,2097151]
theorem spec_l5Copy.tab1:rtab .any (opsOf Try.f50 1)=spec_l5Copy.T1:=by kernel_rfl
theorem spec_l5Copy.bits1:waitsOk spec_l5Copy.T1.2 spec_l5Copy.B1=true:=by kernel_rfl
end Go.Proofs.Ytmekkapacbdbeaa.P

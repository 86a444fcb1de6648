/- Part 4 of the proof of FnStoreReplay: words, contracts of callees, plain lemmas. -/
import Derived.Test.YtmekkapacbdbeaaZLStoreReplay3
set_option maxHeartbeats 8000000
set_option maxRecDepth 100000
set_option linter.unusedVariables false
set_option linter.unusedSimpArgs false
namespace Go.Proofs.Ytmekkapacbdbeaa.P
open Go.RowKit Go.Proofs.YtmekkapacbdbeaaW.PrintWords Go.Proofs.YtmekkapacbdbeaaW.PrintLast Go.Proofs.YtmekkapacbdbeaaW.PrintMore
attribute [local go_sem] max2_int min2_int max_two min_two max_three min_three max_four min_four 
def spec_StoreFall.f (k:Nat) (l0_0:List ByteArray) (l0_1:List ByteArray) (l0_2:List Int) (l0_3:List Int) (l0_4:List Int):Option (List ByteArray × List ByteArray × List Int × List Int × List Int):=(spec_StoreOk.f k l0_0 l0_1 l0_2 l0_3 l0_4).bind fun t215=>(if t215=true then ((spec_l5Copy.f l0_0 l0_1 l0_2 l0_3 l0_4).bind fun bt216=>((some (([]:List ByteArray):List ByteArray)).bind fun y232=>(if y232.length + l0_1.length<8796093022208 then ((some (([]:List Int):List Int)).bind fun y238=>(if y238.length + l0_3.length<17592186044416 then (some ((y232 ++ l0_1),bt216.2.1,(y238 ++ l0_3),bt216.2.2.2.1,bt216.2.2.2.2)) else (none))) else (none)))) else (some (([]:List ByteArray),([]:List ByteArray),([]:List Int),([]:List Int),([]:List Int))))
theorem spec_StoreFall.calls (k:Nat) (A0_0:Option Addr) (c0_0:Nat) (l0_0:List ByteArray) (A0_1:Option Addr) (c0_1:Nat) (l0_1:List ByteArray) (A0_2:Option Addr) (c0_2:Nat) (l0_2:List Int) (A0_3:Option Addr) (c0_3:Nat) (l0_3:List Int) (A0_4:Option Addr) (c0_4:Nat) (l0_4:List Int) (r1:List ByteArray) (r2:List ByteArray) (r3:List Int) (r4:List Int) (r5:List Int) (w:World) (hr0_0:Kd.C Kd.string w A0_0 l0_0.length l0_0) (hc0_0:l0_0.length≤c0_0) (hr0_1:Kd.C Kd.string w A0_1 l0_1.length l0_1) (hc0_1:l0_1.length≤c0_1) (hr0_2:Kd.C (Kd.int .i64) w A0_2 l0_2.length l0_2) (hc0_2:l0_2.length≤c0_2) (hr0_3:Kd.C (Kd.int .i64) w A0_3 l0_3.length l0_3) (hc0_3:l0_3.length≤c0_3) (hr0_4:Kd.C (Kd.int .i64) w A0_4 l0_4.length l0_4) (hc0_4:l0_4.length≤c0_4) (h:spec_StoreFall.f k l0_0 l0_1 l0_2 l0_3 l0_4=some (r1,r2,r3,r4,r5)) :
  Calls Try.prog 35 #[.agg #[.slice A0_0 l0_0.length c0_0,.slice A0_1 l0_1.length c0_1,.slice A0_2 l0_2.length c0_2,.slice A0_3 l0_3.length c0_3,.slice A0_4 l0_4.length c0_4]] w fun e w'=>∃ v0_ v1_ v2_ v3_ v4_:Value,e = .returned (.agg #[v0_,v1_,v2_,v3_,v4_])∧Kd.R Kd.string 9 w' w.heap.size (fun k_=>some k_ ≠ (v1_:Value).ownBlock) v0_ r1∧Kd.R Kd.string 9 w' w.heap.size (fun k_=>some k_ ≠ (v0_:Value).ownBlock) v1_ r2∧Kd.R (Kd.int .i64) 3 w' w.heap.size (fun k_=>some k_ ≠ (v3_:Value).ownBlock∧some k_ ≠ (v4_:Value).ownBlock) v2_ r3∧Kd.R (Kd.int .i64) 3 w' w.heap.size (fun k_=>some k_ ≠ (v2_:Value).ownBlock∧some k_ ≠ (v4_:Value).ownBlock) v3_ r4∧Kd.R (Kd.int .i64) 3 w' w.heap.size (fun k_=>some k_ ≠ (v2_:Value).ownBlock∧some k_ ≠ (v3_:Value).ownBlock) v4_ r5∧Below w.heap.size w w':=by
 have hu26:=Try.underlying26
 have HR0_0:=Ak hr0_0
 have HC0_0:=Ak hc0_0
 clear hr0_0 hc0_0
 have HR0_1:=Ak hr0_1
 have HC0_1:=Ak hc0_1
 clear hr0_1 hc0_1
 have HR0_2:=Ak hr0_2
 have HC0_2:=Ak hc0_2
 clear hr0_2 hc0_2
 have HR0_3:=Ak hr0_3
 have HC0_3:=Ak hc0_3
 clear hr0_3 hc0_3
 have HR0_4:=Ak hr0_4
 have HC0_4:=Ak hc0_4
 clear hr0_4 hc0_4
 have HB:=Ak (Below.refl w.heap.size w)
 have H:((spec_StoreOk.f k l0_0 l0_1 l0_2 l0_3 l0_4).bind fun t215=>(if t215=true then ((spec_l5Copy.f l0_0 l0_1 l0_2 l0_3 l0_4).bind fun bt216=>((some (([]:List ByteArray):List ByteArray)).bind fun y232=>(if y232.length + l0_1.length<8796093022208 then ((some (([]:List Int):List Int)).bind fun y238=>(if y238.length + l0_3.length<17592186044416 then (some ((y232 ++ l0_1),bt216.2.1,(y238 ++ l0_3),bt216.2.2.2.1,bt216.2.2.2.2)) else (none))) else (none)))) else (some (([]:List ByteArray),([]:List ByteArray),([]:List Int),([]:List Int),([]:List Int)))))=some (r1,r2,r3,r4,r5):=h
 clear h
 replace H:=Option.bind_eq_some_iff.mp H
 obtain ⟨t215,A20,H⟩:=H
 replace H:(if t215=true then ((spec_l5Copy.f l0_0 l0_1 l0_2 l0_3 l0_4).bind fun bt216=>((some (([]:List ByteArray):List ByteArray)).bind fun y232=>(if y232.length + l0_1.length<8796093022208 then ((some (([]:List Int):List Int)).bind fun y238=>(if y238.length + l0_3.length<17592186044416 then (some ((y232 ++ l0_1),bt216.2.1,(y238 ++ l0_3),bt216.2.2.2.1,bt216.2.2.2.2)) else (none))) else (none)))) else (some (([]:List ByteArray),([]:List ByteArray),([]:List Int),([]:List Int),([]:List Int))))=some (r1,r2,r3,r4,r5):=H
 have A2:=Ak A20
 clear A20
 by_cases c3:t215=true
 ·subst c3
  have H1:((spec_l5Copy.f l0_0 l0_1 l0_2 l0_3 l0_4).bind fun bt216=>((some (([]:List ByteArray):List ByteArray)).bind fun y232=>(if y232.length + l0_1.length<8796093022208 then ((some (([]:List Int):List Int)).bind fun y238=>(if y238.length + l0_3.length<17592186044416 then (some ((y232 ++ l0_1),bt216.2.1,(y238 ++ l0_3),bt216.2.2.2.1,bt216.2.2.2.2)) else (none))) else (none))))=some (r1,r2,r3,r4,r5):=by rw [if_pos rfl] at H;exact H
  clear H
  have H:=H1
  clear H1
  replace H:=Option.bind_eq_some_iff.mp H
  obtain ⟨⟨t216,t219,t222,t225,t228⟩,A40,H⟩:=H
  replace H:((some (([]:List ByteArray):List ByteArray)).bind fun y232=>(if y232.length + l0_1.length<8796093022208 then ((some (([]:List Int):List Int)).bind fun y238=>(if y238.length + l0_3.length<17592186044416 then (some ((y232 ++ l0_1),t219,(y238 ++ l0_3),t225,t228)) else (none))) else (none)))=some (r1,r2,r3,r4,r5):=H
  have A4:=Ak A40
  clear A40
  obtain ⟨y232,hy232⟩:∃ y_:List ByteArray,y_=(([]:List ByteArray)):=⟨_,rfl⟩
  replace H:(if y232.length + l0_1.length<8796093022208 then ((some (([]:List Int):List Int)).bind fun y238=>(if y238.length + l0_3.length<17592186044416 then (some ((y232 ++ l0_1),t219,(y238 ++ l0_3),t225,t228)) else (none))) else (none))=some (r1,r2,r3,r4,r5):=by first|(rw [hy232];with_reducible exact H)|(have H2_:=(Option.bind_some _ _).symm.trans H;rw [hy232];with_reducible exact H2_)|(have H2_:=(Option.bind_some _ _).symm.trans H;with_reducible exact H2_)|with_reducible exact H|(rw [hy232];exact H)|exact H
  have Ny232:=Ak hy232
  clear hy232
  by_cases c5:y232.length + l0_1.length<8796093022208
  ·rw [if_pos c5] at H
   have LMc5:=Ak c5
   clear c5
   obtain ⟨y235,hy235⟩:∃ y_:List ByteArray,y_=(y232 ++ l0_1):=⟨_,rfl⟩
   replace H:((some (([]:List Int):List Int)).bind fun y238=>(if y238.length + l0_3.length<17592186044416 then (some (y235,t219,(y238 ++ l0_3),t225,t228)) else (none)))=some (r1,r2,r3,r4,r5):=by first|(rw [hy235];with_reducible exact H)|(have H2_:=(Option.bind_some _ _).symm.trans H;rw [hy235];with_reducible exact H2_)|(have H2_:=(Option.bind_some _ _).symm.trans H;with_reducible exact H2_)|with_reducible exact H|(rw [hy235];exact H)|exact H
   have Ny235:=Ak hy235
   clear hy235
   obtain ⟨y238,hy238⟩:∃ y_:List Int,y_=(([]:List Int)):=⟨_,rfl⟩
   replace H:(if y238.length + l0_3.length<17592186044416 then (some (y235,t219,(y238 ++ l0_3),t225,t228)) else (none))=some (r1,r2,r3,r4,r5):=by first|(rw [hy238];with_reducible exact H)|(have H2_:=(Option.bind_some _ _).symm.trans H;rw [hy238];with_reducible exact H2_)|(have H2_:=(Option.bind_some _ _).symm.trans H;with_reducible exact H2_)|with_reducible exact H|(rw [hy238];exact H)|exact H
   have Ny238:=Ak hy238
   clear hy238
   by_cases c6:y238.length + l0_3.length<17592186044416
   ·rw [if_pos c6] at H
    have LMc6:=Ak c6
    clear c6
    obtain ⟨y241,hy241⟩:∃ y_:List Int,y_=(y238 ++ l0_3):=⟨_,rfl⟩
    replace H:(some (y235,t219,y241,t225,t228))=some (r1,r2,r3,r4,r5):=by first|(rw [hy241];with_reducible exact H)|(have H2_:=(Option.bind_some _ _).symm.trans H;rw [hy241];with_reducible exact H2_)|(have H2_:=(Option.bind_some _ _).symm.trans H;with_reducible exact H2_)|with_reducible exact H|(rw [hy241];exact H)|exact H
    have Ny241:=Ak hy241
    clear hy241
    simp only [Option.some.injEq,Prod.mk.injEq] at H
    obtain ⟨rfl,rfl,rfl,rfl,rfl⟩:=H
    go_enter Try.func35,Try.ntmps35
    go_wp2_with (first|((with_reducible refine gate_dst (N:=1) rfl ?_);refine box_event ?hg (N:=1) ?hd (cs:=#[.slice A0_0 l0_0.length c0_0,.slice A0_1 l0_1.length c0_1,.slice A0_2 l0_2.length c0_2,.slice A0_3 l0_3.length c0_3,.slice A0_4 l0_4.length c0_4]) (t:=26) ?hr ?_;(case hd=>rfl);(case hg=>rfl);(case hr=>first|(go_simp;done)|(go_simp;rfl));intro gb213 hg w7 hbox hb;have n0_:=Ak (below_step (by repeat (first|(with_reducible first|exact HB.out|apply below_alloc|apply pw_below_drewN|apply below_drew1)|exact HB.out)) hb);have n1_:=Ak (hbox);have n2_:=Ak ((by rw [hg];exact (below_size (by repeat (first|(with_reducible first|exact HB.out|apply below_alloc|apply pw_below_drewN|apply below_drew1)|exact HB.out))):w.heap.size≤gb213));have n3_:=Ak ((by rw [hg];exact (below_size (by repeat (first|(with_reducible first|exact HB.out|apply below_alloc|apply pw_below_drewN|apply below_drew1)|exact HB.out))):w.heap.size≤gb213));clear HB;have HB:=n0_;have BK213:=n1_;have GW213:=n2_;have GE213:=n3_;clear n0_ n1_ n2_ n3_;clear hb hbox hg)|((with_reducible refine gate_dst (N:=2) rfl ?_);refine box_event ?hg (N:=2) ?hd (cs:=#[.slice none 0 0,.slice none 0 0,.slice none 0 0,.slice none 0 0,.slice none 0 0]) (t:=26) ?hr ?_;(case hd=>rfl);(case hg=>rfl);(case hr=>first|(go_simp;done)|(go_simp;rfl));intro gb214 hg w8 hbox hb;have n0_:=Ak (blk_below (g:=gb213) (o:=.cells #[.slice A0_0 l0_0.length c0_0,.slice A0_1 l0_1.length c0_1,.slice A0_2 l0_2.length c0_2,.slice A0_3 l0_3.length c0_3,.slice A0_4 l0_4.length c0_4] 26 (0,0)) (by (with_reducible repeat (first|refine blk_drewN ?_ _|refine blk_drew ?_|refine blk_alloc ?_ _));exact BK213.out) hb);have n1_:=Ak (below_step (by repeat (first|(with_reducible first|exact HB.out|apply below_alloc|apply pw_below_drewN|apply below_drew1|refine below_set ?_ GE213.out)|exact HB.out)) hb);have n2_:=Ak (hbox);have n3_:=Ak ((by rw [hg];exact (below_size (by repeat (first|(with_reducible first|exact HB.out|apply below_alloc|apply pw_below_drewN|apply below_drew1|refine below_set ?_ GE213.out)|exact HB.out))):w.heap.size≤gb214));have n4_:=Ak ((by rw [hg];exact (below_size (by repeat (first|(with_reducible first|exact HB.out|apply below_alloc|apply pw_below_drewN|apply below_drew1|refine below_set ?_ GE213.out)|exact HB.out))):w.heap.size≤gb214));have n5_:=Ak ((by rw [hg];exact Nat.ne_of_lt (blk_lt (g:=gb213) (o:=.cells #[.slice A0_0 l0_0.length c0_0,.slice A0_1 l0_1.length c0_1,.slice A0_2 l0_2.length c0_2,.slice A0_3 l0_3.length c0_3,.slice A0_4 l0_4.length c0_4] 26 (0,0)) (by (with_reducible repeat (first|refine blk_drewN ?_ _|refine blk_drew ?_|refine blk_alloc ?_ _));exact BK213.out)):gb213 ≠ gb214));have n6_:=Ak ((by rw [hg];exact Nat.ne_of_gt (blk_lt (g:=gb213) (o:=.cells #[.slice A0_0 l0_0.length c0_0,.slice A0_1 l0_1.length c0_1,.slice A0_2 l0_2.length c0_2,.slice A0_3 l0_3.length c0_3,.slice A0_4 l0_4.length c0_4] 26 (0,0)) (by (with_reducible repeat (first|refine blk_drewN ?_ _|refine blk_drew ?_|refine blk_alloc ?_ _));exact BK213.out)):gb214 ≠ gb213));clear BK213;clear HB;have BK213:=n0_;have HB:=n1_;have BK214:=n2_;have GW214:=n3_;have GE214:=n4_;have NB213_214:=n5_;have NB214_213:=n6_;clear n0_ n1_ n2_ n3_ n4_ n5_ n6_;clear hb hbox hg;have hnb9:=NB213_214.out;have hnc9:=NB214_213.out;have hcz10_0:w8.cell? ⟨gb213,0,none⟩=some (.slice A0_0 l0_0.length c0_0):=(blk_cell BK213.out 0).trans rfl;have hcz10_1:w8.cell? ⟨gb213,1,none⟩=some (.slice A0_1 l0_1.length c0_1):=(blk_cell BK213.out 1).trans rfl;have hcz10_2:w8.cell? ⟨gb213,2,none⟩=some (.slice A0_2 l0_2.length c0_2):=(blk_cell BK213.out 2).trans rfl;have hcz10_3:w8.cell? ⟨gb213,3,none⟩=some (.slice A0_3 l0_3.length c0_3):=(blk_cell BK213.out 3).trans rfl;have hcz10_4:w8.cell? ⟨gb213,4,none⟩=some (.slice A0_4 l0_4.length c0_4):=(blk_cell BK213.out 4).trans rfl;have hfz10_0:=blk_frozen BK213.out 0;have hfz10_1:=blk_frozen BK213.out 1;have hfz10_2:=blk_frozen BK213.out 2;have hfz10_3:=blk_frozen BK213.out 3;have hfz10_4:=blk_frozen BK213.out 4)|((with_reducible refine gate_callee (f:=19) rfl ?_);refine goesL_ (some 5) rfl rfl Try.func19 (by kernel_rfl) rfl #[.agg #[.slice A0_0 l0_0.length c0_0,.slice A0_1 l0_1.length c0_1,.slice A0_2 l0_2.length c0_2,.slice A0_3 l0_3.length c0_3,.slice A0_4 l0_4.length c0_4]] rfl (by (try simp only [List.map_toArray,List.map_cons,List.map_nil]);first|done|rfl|(simp only [List.length_drop,List.length_take];rfl)) ?_;(with_reducible refine (spec_StoreOk.calls k _ _ l0_0 _ _ l0_1 _ _ l0_2 _ _ l0_3 _ _ l0_4 true _ ?side1 ?side2 ?side3 ?side4 ?side5 ?side6 ?side7 ?side8 ?side9 ?side10 A2.out).mono ?_);(case side1=>repeat (first|exact (Kd.C_below HR0_0.out HB.out)|(with_reducible refine Kd.C_alloc ?_ _)|(with_reducible refine Kd.C_drewN ?_ _)|(with_reducible refine Kd.C_drew ?_)));(case side2=>exact HC0_0.out);(case side3=>repeat (first|exact (Kd.C_below HR0_1.out HB.out)|(with_reducible refine Kd.C_alloc ?_ _)|(with_reducible refine Kd.C_drewN ?_ _)|(with_reducible refine Kd.C_drew ?_)));(case side4=>exact HC0_1.out);(case side5=>repeat (first|exact (Kd.C_below HR0_2.out HB.out)|(with_reducible refine Kd.C_alloc ?_ _)|(with_reducible refine Kd.C_drewN ?_ _)|(with_reducible refine Kd.C_drew ?_)));(case side6=>exact HC0_2.out);(case side7=>repeat (first|exact (Kd.C_below HR0_3.out HB.out)|(with_reducible refine Kd.C_alloc ?_ _)|(with_reducible refine Kd.C_drewN ?_ _)|(with_reducible refine Kd.C_drew ?_)));(case side8=>exact HC0_3.out);(case side9=>repeat (first|exact (Kd.C_below HR0_4.out HB.out)|(with_reducible refine Kd.C_alloc ?_ _)|(with_reducible refine Kd.C_drewN ?_ _)|(with_reducible refine Kd.C_drew ?_)));(case side10=>exact HC0_4.out);rintro e w11 ⟨rfl,hb⟩;refine ⟨_,rfl,?_⟩;have n0_:=Ak (blk_below (g:=gb213) (o:=.cells #[.slice A0_0 l0_0.length c0_0,.slice A0_1 l0_1.length c0_1,.slice A0_2 l0_2.length c0_2,.slice A0_3 l0_3.length c0_3,.slice A0_4 l0_4.length c0_4] 26 (0,0)) (by (with_reducible repeat (first|refine blk_drewN ?_ _|refine blk_drew ?_|refine blk_alloc ?_ _));exact BK213.out) hb);have n1_:=Ak (blk_below (g:=gb214) (o:=.cells #[.slice none 0 0,.slice none 0 0,.slice none 0 0,.slice none 0 0,.slice none 0 0] 26 (0,0)) (by (with_reducible repeat (first|refine blk_drewN ?_ _|refine blk_drew ?_|refine blk_alloc ?_ _));exact BK214.out) hb);have n2_:=Ak (below_step (by repeat (first|(with_reducible first|exact HB.out|apply below_alloc|apply pw_below_drewN|apply below_drew1|refine below_set ?_ GE213.out|refine below_set ?_ GE214.out)|exact HB.out)) hb);clear BK213;clear BK214;clear HB;have BK213:=n0_;have BK214:=n1_;have HB:=n2_;clear n0_ n1_ n2_;(try clear hb);(try clear hb2);(try clear hk);(try clear hi);have hcz12_0:w11.cell? ⟨gb213,0,none⟩=some (.slice A0_0 l0_0.length c0_0):=(blk_cell BK213.out 0).trans rfl;have hcz12_1:w11.cell? ⟨gb213,1,none⟩=some (.slice A0_1 l0_1.length c0_1):=(blk_cell BK213.out 1).trans rfl;have hcz12_2:w11.cell? ⟨gb213,2,none⟩=some (.slice A0_2 l0_2.length c0_2):=(blk_cell BK213.out 2).trans rfl;have hcz12_3:w11.cell? ⟨gb213,3,none⟩=some (.slice A0_3 l0_3.length c0_3):=(blk_cell BK213.out 3).trans rfl;have hcz12_4:w11.cell? ⟨gb213,4,none⟩=some (.slice A0_4 l0_4.length c0_4):=(blk_cell BK213.out 4).trans rfl;have hfz12_0:=blk_frozen BK213.out 0;have hfz12_1:=blk_frozen BK213.out 1;have hfz12_2:=blk_frozen BK213.out 2;have hfz12_3:=blk_frozen BK213.out 3;have hfz12_4:=blk_frozen BK213.out 4)|((with_reducible refine gate_callee (f:=50) rfl ?_);refine goesL_ (some 9) rfl rfl Try.func50 (by kernel_rfl) rfl #[.agg #[.slice A0_0 l0_0.length c0_0,.slice A0_1 l0_1.length c0_1,.slice A0_2 l0_2.length c0_2,.slice A0_3 l0_3.length c0_3,.slice A0_4 l0_4.length c0_4]] rfl (by (try simp only [List.map_toArray,List.map_cons,List.map_nil]);first|done|rfl|(simp only [List.length_drop,List.length_take];rfl)) ?_;(with_reducible refine (spec_l5Copy.calls _ _ l0_0 _ _ l0_1 _ _ l0_2 _ _ l0_3 _ _ l0_4 t216 t219 t222 t225 t228 _ ?side1 ?side2 ?side3 ?side4 ?side5 ?side6 ?side7 ?side8 ?side9 ?side10 A4.out).mono ?_);(case side1=>repeat (first|exact (Kd.C_below HR0_0.out HB.out)|(with_reducible refine Kd.C_alloc ?_ _)|(with_reducible refine Kd.C_drewN ?_ _)|(with_reducible refine Kd.C_drew ?_)));(case side2=>exact HC0_0.out);(case side3=>repeat (first|exact (Kd.C_below HR0_1.out HB.out)|(with_reducible refine Kd.C_alloc ?_ _)|(with_reducible refine Kd.C_drewN ?_ _)|(with_reducible refine Kd.C_drew ?_)));(case side4=>exact HC0_1.out);(case side5=>repeat (first|exact (Kd.C_below HR0_2.out HB.out)|(with_reducible refine Kd.C_alloc ?_ _)|(with_reducible refine Kd.C_drewN ?_ _)|(with_reducible refine Kd.C_drew ?_)));(case side6=>exact HC0_2.out);(case side7=>repeat (first|exact (Kd.C_below HR0_3.out HB.out)|(with_reducible refine Kd.C_alloc ?_ _)|(with_reducible refine Kd.C_drewN ?_ _)|(with_reducible refine Kd.C_drew ?_)));(case side8=>exact HC0_3.out);(case side9=>repeat (first|exact (Kd.C_below HR0_4.out HB.out)|(with_reducible refine Kd.C_alloc ?_ _)|(with_reducible refine Kd.C_drewN ?_ _)|(with_reducible refine Kd.C_drew ?_)));(case side10=>exact HC0_4.out);rintro e w13 ⟨v217,v220,v223,v226,v229,rfl,ho0,ho1,ho2,ho3,ho4,hb⟩;refine ⟨_,rfl,?_⟩;have n0_:=Ak (Kd.R_lower ho0 (below_size (by repeat (first|(with_reducible first|exact HB.out|apply below_alloc|apply pw_below_drewN|apply below_drew1|refine below_set ?_ GE213.out|refine below_set ?_ GE214.out)|exact HB.out))));have n1_:=Ak (Kd.R_lower ho1 (below_size (by repeat (first|(with_reducible first|exact HB.out|apply below_alloc|apply pw_below_drewN|apply below_drew1|refine below_set ?_ GE213.out|refine below_set ?_ GE214.out)|exact HB.out))));have n2_:=Ak (Kd.R_lower ho2 (below_size (by repeat (first|(with_reducible first|exact HB.out|apply below_alloc|apply pw_below_drewN|apply below_drew1|refine below_set ?_ GE213.out|refine below_set ?_ GE214.out)|exact HB.out))));have n3_:=Ak (Kd.R_lower ho3 (below_size (by repeat (first|(with_reducible first|exact HB.out|apply below_alloc|apply pw_below_drewN|apply below_drew1|refine below_set ?_ GE213.out|refine below_set ?_ GE214.out)|exact HB.out))));have n4_:=Ak (Kd.R_lower ho4 (below_size (by repeat (first|(with_reducible first|exact HB.out|apply below_alloc|apply pw_below_drewN|apply below_drew1|refine below_set ?_ GE213.out|refine below_set ?_ GE214.out)|exact HB.out))));have n5_:=Ak (blk_below (g:=gb213) (o:=.cells #[.slice A0_0 l0_0.length c0_0,.slice A0_1 l0_1.length c0_1,.slice A0_2 l0_2.length c0_2,.slice A0_3 l0_3.length c0_3,.slice A0_4 l0_4.length c0_4] 26 (0,0)) (by (with_reducible repeat (first|refine blk_drewN ?_ _|refine blk_drew ?_|refine blk_alloc ?_ _));exact BK213.out) hb);have n6_:=Ak (blk_below (g:=gb214) (o:=.cells #[.slice none 0 0,.slice none 0 0,.slice none 0 0,.slice none 0 0,.slice none 0 0] 26 (0,0)) (by (with_reducible repeat (first|refine blk_drewN ?_ _|refine blk_drew ?_|refine blk_alloc ?_ _));exact BK214.out) hb);have n7_:=Ak (below_step (by repeat (first|(with_reducible first|exact HB.out|apply below_alloc|apply pw_below_drewN|apply below_drew1|refine below_set ?_ GE213.out|refine below_set ?_ GE214.out)|exact HB.out)) hb);clear BK213;clear BK214;clear HB;have HO218:=n0_;have HO221:=n1_;have HO224:=n2_;have HO227:=n3_;have HO230:=n4_;have BK213:=n5_;have BK214:=n6_;have HB:=n7_;clear n0_ n1_ n2_ n3_ n4_ n5_ n6_ n7_;(try clear hb);(try clear hb2);(try clear hk);(try clear hi);(try clear ho0);(try clear ho1);(try clear ho2);(try clear ho3);(try clear ho4))|((with_reducible refine gate_dst (N:=3) rfl ?_);refine box_event ?hg (N:=3) ?hd (cs:=#[.slice none 0 0,.slice none 0 0,.slice none 0 0,.slice none 0 0,.slice none 0 0]) (t:=26) ?hr ?_;(case hd=>rfl);(case hg=>rfl);(case hr=>first|(go_simp;done)|(go_simp;rfl));intro gb231 hg w14 hbox hb;have n0_:=Ak (Kd.R_below (by (with_reducible repeat (first|apply Kd.R_alloc|apply Kd.R_drewN|apply Kd.R_drew));exact HO218.out) hb);have n1_:=Ak (Kd.R_below (by (with_reducible repeat (first|apply Kd.R_alloc|apply Kd.R_drewN|apply Kd.R_drew));exact HO221.out) hb);have n2_:=Ak (Kd.R_below (by (with_reducible repeat (first|apply Kd.R_alloc|apply Kd.R_drewN|apply Kd.R_drew));exact HO224.out) hb);have n3_:=Ak (Kd.R_below (by (with_reducible repeat (first|apply Kd.R_alloc|apply Kd.R_drewN|apply Kd.R_drew));exact HO227.out) hb);have n4_:=Ak (Kd.R_below (by (with_reducible repeat (first|apply Kd.R_alloc|apply Kd.R_drewN|apply Kd.R_drew));exact HO230.out) hb);have n5_:=Ak (blk_below (g:=gb213) (o:=.cells #[.slice A0_0 l0_0.length c0_0,.slice A0_1 l0_1.length c0_1,.slice A0_2 l0_2.length c0_2,.slice A0_3 l0_3.length c0_3,.slice A0_4 l0_4.length c0_4] 26 (0,0)) (by (with_reducible repeat (first|refine blk_drewN ?_ _|refine blk_drew ?_|refine blk_alloc ?_ _));exact BK213.out) hb);have n6_:=Ak (blk_below (g:=gb214) (o:=.cells #[.slice none 0 0,.slice none 0 0,.slice none 0 0,.slice none 0 0,.slice none 0 0] 26 (0,0)) (by (with_reducible repeat (first|refine blk_drewN ?_ _|refine blk_drew ?_|refine blk_alloc ?_ _));exact BK214.out) hb);have n7_:=Ak (below_step (by repeat (first|(with_reducible first|exact HB.out|apply below_alloc|apply pw_below_drewN|apply below_drew1|refine below_set ?_ GE213.out|refine below_set ?_ GE214.out)|exact HB.out)) hb);have n8_:=Ak (hbox);have n9_:=Ak ((by rw [hg];exact (below_size (by repeat (first|(with_reducible first|exact HB.out|apply below_alloc|apply pw_below_drewN|apply below_drew1|refine below_set ?_ GE213.out|refine below_set ?_ GE214.out)|exact HB.out))):w.heap.size≤gb231));have n10_:=Ak ((by rw [hg];exact (below_size (by repeat (first|(with_reducible first|exact HB.out|apply below_alloc|apply pw_below_drewN|apply below_drew1|refine below_set ?_ GE213.out|refine below_set ?_ GE214.out)|exact HB.out))):w.heap.size≤gb231));have n11_:=Ak ((by rw [hg];exact Nat.ne_of_lt (blk_lt (g:=gb213) (o:=.cells #[.slice A0_0 l0_0.length c0_0,.slice A0_1 l0_1.length c0_1,.slice A0_2 l0_2.length c0_2,.slice A0_3 l0_3.length c0_3,.slice A0_4 l0_4.length c0_4] 26 (0,0)) (by (with_reducible repeat (first|refine blk_drewN ?_ _|refine blk_drew ?_|refine blk_alloc ?_ _));exact BK213.out)):gb213 ≠ gb231));have n12_:=Ak ((by rw [hg];exact Nat.ne_of_gt (blk_lt (g:=gb213) (o:=.cells #[.slice A0_0 l0_0.length c0_0,.slice A0_1 l0_1.length c0_1,.slice A0_2 l0_2.length c0_2,.slice A0_3 l0_3.length c0_3,.slice A0_4 l0_4.length c0_4] 26 (0,0)) (by (with_reducible repeat (first|refine blk_drewN ?_ _|refine blk_drew ?_|refine blk_alloc ?_ _));exact BK213.out)):gb231 ≠ gb213));have n13_:=Ak ((by rw [hg];exact Nat.ne_of_lt (blk_lt (g:=gb214) (o:=.cells #[.slice none 0 0,.slice none 0 0,.slice none 0 0,.slice none 0 0,.slice none 0 0] 26 (0,0)) (by (with_reducible repeat (first|refine blk_drewN ?_ _|refine blk_drew ?_|refine blk_alloc ?_ _));exact BK214.out)):gb214 ≠ gb231));have n14_:=Ak ((by rw [hg];exact Nat.ne_of_gt (blk_lt (g:=gb214) (o:=.cells #[.slice none 0 0,.slice none 0 0,.slice none 0 0,.slice none 0 0,.slice none 0 0] 26 (0,0)) (by (with_reducible repeat (first|refine blk_drewN ?_ _|refine blk_drew ?_|refine blk_alloc ?_ _));exact BK214.out)):gb231 ≠ gb214));clear HO218;clear HO221;clear HO224;clear HO227;clear HO230;clear BK213;clear BK214;clear HB;have HO218:=n0_;have HO221:=n1_;have HO224:=n2_;have HO227:=n3_;have HO230:=n4_;have BK213:=n5_;have BK214:=n6_;have HB:=n7_;have BK231:=n8_;have GW231:=n9_;have GE231:=n10_;have NB213_231:=n11_;have NB231_213:=n12_;have NB214_231:=n13_;have NB231_214:=n14_;clear n0_ n1_ n2_ n3_ n4_ n5_ n6_ n7_ n8_ n9_ n10_ n11_ n12_ n13_ n14_;clear hb hbox hg;obtain ⟨Ao15,co15,eo15⟩:=Kd.R_slice HO218.out;subst eo15;have hnb16:=NB231_213.out;have hnc16:=NB213_231.out;have hnb17:=NB231_214.out;have hnc17:=NB214_231.out;have hcz18_0:w14.cell? ⟨gb231,0,none⟩=some (.slice none 0 0):=(blk_cell BK231.out 0).trans rfl;have hcz18_1:w14.cell? ⟨gb231,1,none⟩=some (.slice none 0 0):=(blk_cell BK231.out 1).trans rfl;have hcz18_2:w14.cell? ⟨gb231,2,none⟩=some (.slice none 0 0):=(blk_cell BK231.out 2).trans rfl;have hcz18_3:w14.cell? ⟨gb231,3,none⟩=some (.slice none 0 0):=(blk_cell BK231.out 3).trans rfl;have hcz18_4:w14.cell? ⟨gb231,4,none⟩=some (.slice none 0 0):=(blk_cell BK231.out 4).trans rfl;have hfz18_0:=blk_frozen BK231.out 0;have hfz18_1:=blk_frozen BK231.out 1;have hfz18_2:=blk_frozen BK231.out 2;have hfz18_3:=blk_frozen BK231.out 3;have hfz18_4:=blk_frozen BK231.out 4;obtain ⟨Ao19,co19,eo19⟩:=Kd.R_slice HO221.out;subst eo19;obtain ⟨Ao20,co20,eo20⟩:=Kd.R_slice HO224.out;subst eo20;obtain ⟨Ao21,co21,eo21⟩:=Kd.R_slice HO227.out;subst eo21;obtain ⟨Ao22,co22,eo22⟩:=Kd.R_slice HO230.out;subst eo22)|((with_reducible refine gate_dst (N:=10) rfl ?_);refine Kd.R_lit Kd.string _ 9 ?hg (N:=10) ?hd (xs:=([]:List ByteArray)) (inner:=[]) (ok:=fun _=>True) (okp:=fun _=>True) ?hr ?hp (fun _ hk=>hk) trivial (Below.refl _ _) (Nat.le_refl _) (by simp) ?_;(case hd=>rfl);(case hg=>rfl);(case hr=>first|(go_simp;done)|(go_simp;rfl));(case hp=>exact (Reps.none _ _));intro v233 w23 ho24 hb hg_ hnew_;clear hg_ hnew_;(first|rw [← Ny232.out] at ho24|(simp only [Int.reduceToNat] at ho24;rw [← Ny232.out] at ho24));have n0_:=Ak (Kd.R_elder' (by (with_reducible repeat (first|apply Kd.R_alloc|apply Kd.R_drewN|apply Kd.R_drew));exact (Kd.R_mono (Kd.R_far (p:=⟨gb231,4,none⟩) (Kd.R_far (p:=⟨gb231,3,none⟩) (Kd.R_far (p:=⟨gb231,2,none⟩) (Kd.R_far (p:=⟨gb231,1,none⟩) (Kd.R_far (p:=⟨gb231,0,none⟩) (Kd.R_types HO218.out BK231.out (by decide)) (fun _ hk=>hk.2) (.slice Ao15 t216.length co15)) (fun _ hk=>hk.2) (.slice Ao19 t219.length co19)) (fun _ hk=>hk.2) (.slice Ao20 t222.length co20)) (fun _ hk=>hk.2) (.slice Ao21 t225.length co21)) (fun _ hk=>hk.2) (.slice Ao22 t228.length co22)) (fun _ h_=>h_.1))) (Kd.R_base ho24) hb);have n1_:=Ak (Kd.R_elder' (by (with_reducible repeat (first|apply Kd.R_alloc|apply Kd.R_drewN|apply Kd.R_drew));exact (Kd.R_mono (Kd.R_far (p:=⟨gb231,4,none⟩) (Kd.R_far (p:=⟨gb231,3,none⟩) (Kd.R_far (p:=⟨gb231,2,none⟩) (Kd.R_far (p:=⟨gb231,1,none⟩) (Kd.R_far (p:=⟨gb231,0,none⟩) (Kd.R_types HO221.out BK231.out (by decide)) (fun _ hk=>hk.2) (.slice Ao15 t216.length co15)) (fun _ hk=>hk.2) (.slice Ao19 t219.length co19)) (fun _ hk=>hk.2) (.slice Ao20 t222.length co20)) (fun _ hk=>hk.2) (.slice Ao21 t225.length co21)) (fun _ hk=>hk.2) (.slice Ao22 t228.length co22)) (fun _ h_=>h_.1))) (Kd.R_base ho24) hb);have n2_:=Ak (Kd.R_below (by (with_reducible repeat (first|apply Kd.R_alloc|apply Kd.R_drewN|apply Kd.R_drew));exact (Kd.R_mono (Kd.R_far (p:=⟨gb231,4,none⟩) (Kd.R_far (p:=⟨gb231,3,none⟩) (Kd.R_far (p:=⟨gb231,2,none⟩) (Kd.R_far (p:=⟨gb231,1,none⟩) (Kd.R_far (p:=⟨gb231,0,none⟩) (Kd.R_types HO224.out BK231.out (by decide)) (fun _ hk=>hk.2) (.slice Ao15 t216.length co15)) (fun _ hk=>hk.2) (.slice Ao19 t219.length co19)) (fun _ hk=>hk.2) (.slice Ao20 t222.length co20)) (fun _ hk=>hk.2) (.slice Ao21 t225.length co21)) (fun _ hk=>hk.2) (.slice Ao22 t228.length co22)) (fun _ h_=>h_.1))) hb);have n3_:=Ak (Kd.R_below (by (with_reducible repeat (first|apply Kd.R_alloc|apply Kd.R_drewN|apply Kd.R_drew));exact (Kd.R_mono (Kd.R_far (p:=⟨gb231,4,none⟩) (Kd.R_far (p:=⟨gb231,3,none⟩) (Kd.R_far (p:=⟨gb231,2,none⟩) (Kd.R_far (p:=⟨gb231,1,none⟩) (Kd.R_far (p:=⟨gb231,0,none⟩) (Kd.R_types HO227.out BK231.out (by decide)) (fun _ hk=>hk.2) (.slice Ao15 t216.length co15)) (fun _ hk=>hk.2) (.slice Ao19 t219.length co19)) (fun _ hk=>hk.2) (.slice Ao20 t222.length co20)) (fun _ hk=>hk.2) (.slice Ao21 t225.length co21)) (fun _ hk=>hk.2) (.slice Ao22 t228.length co22)) (fun _ h_=>h_.1))) hb);have n4_:=Ak (Kd.R_below (by (with_reducible repeat (first|apply Kd.R_alloc|apply Kd.R_drewN|apply Kd.R_drew));exact (Kd.R_mono (Kd.R_far (p:=⟨gb231,4,none⟩) (Kd.R_far (p:=⟨gb231,3,none⟩) (Kd.R_far (p:=⟨gb231,2,none⟩) (Kd.R_far (p:=⟨gb231,1,none⟩) (Kd.R_far (p:=⟨gb231,0,none⟩) (Kd.R_types HO230.out BK231.out (by decide)) (fun _ hk=>hk.2) (.slice Ao15 t216.length co15)) (fun _ hk=>hk.2) (.slice Ao19 t219.length co19)) (fun _ hk=>hk.2) (.slice Ao20 t222.length co20)) (fun _ hk=>hk.2) (.slice Ao21 t225.length co21)) (fun _ hk=>hk.2) (.slice Ao22 t228.length co22)) (fun _ h_=>h_.1))) hb);have n5_:=Ak (Kd.R_lower (Kd.R_new' (Kd.R_new' ho24 (Kd.R_lt (by (with_reducible repeat (first|apply Kd.R_alloc|apply Kd.R_drewN|apply Kd.R_drew));exact (Kd.R_mono (Kd.R_far (p:=⟨gb231,4,none⟩) (Kd.R_far (p:=⟨gb231,3,none⟩) (Kd.R_far (p:=⟨gb231,2,none⟩) (Kd.R_far (p:=⟨gb231,1,none⟩) (Kd.R_far (p:=⟨gb231,0,none⟩) (Kd.R_types HO218.out BK231.out (by decide)) (fun _ hk=>hk.2) (.slice Ao15 t216.length co15)) (fun _ hk=>hk.2) (.slice Ao19 t219.length co19)) (fun _ hk=>hk.2) (.slice Ao20 t222.length co20)) (fun _ hk=>hk.2) (.slice Ao21 t225.length co21)) (fun _ hk=>hk.2) (.slice Ao22 t228.length co22)) (fun _ h_=>h_.1))))) (Kd.R_lt (by (with_reducible repeat (first|apply Kd.R_alloc|apply Kd.R_drewN|apply Kd.R_drew));exact (Kd.R_mono (Kd.R_far (p:=⟨gb231,4,none⟩) (Kd.R_far (p:=⟨gb231,3,none⟩) (Kd.R_far (p:=⟨gb231,2,none⟩) (Kd.R_far (p:=⟨gb231,1,none⟩) (Kd.R_far (p:=⟨gb231,0,none⟩) (Kd.R_types HO221.out BK231.out (by decide)) (fun _ hk=>hk.2) (.slice Ao15 t216.length co15)) (fun _ hk=>hk.2) (.slice Ao19 t219.length co19)) (fun _ hk=>hk.2) (.slice Ao20 t222.length co20)) (fun _ hk=>hk.2) (.slice Ao21 t225.length co21)) (fun _ hk=>hk.2) (.slice Ao22 t228.length co22)) (fun _ h_=>h_.1))))) (below_size (by repeat (first|(with_reducible first|exact HB.out|apply below_alloc|apply pw_below_drewN|apply below_drew1|refine below_set ?_ GE213.out|refine below_set ?_ GE214.out|refine below_set ?_ GE231.out)|exact HB.out))));have n6_:=Ak (blk_below (g:=gb213) (o:=.cells #[.slice A0_0 l0_0.length c0_0,.slice A0_1 l0_1.length c0_1,.slice A0_2 l0_2.length c0_2,.slice A0_3 l0_3.length c0_3,.slice A0_4 l0_4.length c0_4] 26 (0,0)) (by (with_reducible repeat (first|refine blk_drewN ?_ _|refine blk_drew ?_|refine blk_alloc ?_ _));refine blk_far ?_ NB213_231.out _;(with_reducible repeat (first|refine blk_drewN ?_ _|refine blk_drew ?_|refine blk_alloc ?_ _));refine blk_far ?_ NB213_231.out _;(with_reducible repeat (first|refine blk_drewN ?_ _|refine blk_drew ?_|refine blk_alloc ?_ _));refine blk_far ?_ NB213_231.out _;(with_reducible repeat (first|refine blk_drewN ?_ _|refine blk_drew ?_|refine blk_alloc ?_ _));refine blk_far ?_ NB213_231.out _;(with_reducible repeat (first|refine blk_drewN ?_ _|refine blk_drew ?_|refine blk_alloc ?_ _));refine blk_far ?_ NB213_231.out _;(with_reducible repeat (first|refine blk_drewN ?_ _|refine blk_drew ?_|refine blk_alloc ?_ _));exact BK213.out) hb);have n7_:=Ak (blk_below (g:=gb214) (o:=.cells #[.slice none 0 0,.slice none 0 0,.slice none 0 0,.slice none 0 0,.slice none 0 0] 26 (0,0)) (by (with_reducible repeat (first|refine blk_drewN ?_ _|refine blk_drew ?_|refine blk_alloc ?_ _));refine blk_far ?_ NB214_231.out _;(with_reducible repeat (first|refine blk_drewN ?_ _|refine blk_drew ?_|refine blk_alloc ?_ _));refine blk_far ?_ NB214_231.out _;(with_reducible repeat (first|refine blk_drewN ?_ _|refine blk_drew ?_|refine blk_alloc ?_ _));refine blk_far ?_ NB214_231.out _;(with_reducible repeat (first|refine blk_drewN ?_ _|refine blk_drew ?_|refine blk_alloc ?_ _));refine blk_far ?_ NB214_231.out _;(with_reducible repeat (first|refine blk_drewN ?_ _|refine blk_drew ?_|refine blk_alloc ?_ _));refine blk_far ?_ NB214_231.out _;(with_reducible repeat (first|refine blk_drewN ?_ _|refine blk_drew ?_|refine blk_alloc ?_ _));exact BK214.out) hb);have n8_:=Ak (blk_below (g:=gb231) (o:=.cells #[.slice Ao15 t216.length co15,.slice Ao19 t219.length co19,.slice Ao20 t222.length co20,.slice Ao21 t225.length co21,.slice Ao22 t228.length co22] 26 (0,0)) (by (with_reducible repeat (first|refine blk_drewN ?_ _|refine blk_drew ?_|refine blk_alloc ?_ _));refine blk_put (cs:=#[.slice Ao15 t216.length co15,.slice Ao19 t219.length co19,.slice Ao20 t222.length co20,.slice Ao21 t225.length co21,.slice none 0 0]) ?_ 4 _ rfl;(with_reducible repeat (first|refine blk_drewN ?_ _|refine blk_drew ?_|refine blk_alloc ?_ _));refine blk_put (cs:=#[.slice Ao15 t216.length co15,.slice Ao19 t219.length co19,.slice Ao20 t222.length co20,.slice none 0 0,.slice none 0 0]) ?_ 3 _ rfl;(with_reducible repeat (first|refine blk_drewN ?_ _|refine blk_drew ?_|refine blk_alloc ?_ _));refine blk_put (cs:=#[.slice Ao15 t216.length co15,.slice Ao19 t219.length co19,.slice none 0 0,.slice none 0 0,.slice none 0 0]) ?_ 2 _ rfl;(with_reducible repeat (first|refine blk_drewN ?_ _|refine blk_drew ?_|refine blk_alloc ?_ _));refine blk_put (cs:=#[.slice Ao15 t216.length co15,.slice none 0 0,.slice none 0 0,.slice none 0 0,.slice none 0 0]) ?_ 1 _ rfl;(with_reducible repeat (first|refine blk_drewN ?_ _|refine blk_drew ?_|refine blk_alloc ?_ _));refine blk_put (cs:=#[.slice none 0 0,.slice none 0 0,.slice none 0 0,.slice none 0 0,.slice none 0 0]) ?_ 0 _ rfl;(with_reducible repeat (first|refine blk_drewN ?_ _|refine blk_drew ?_|refine blk_alloc ?_ _));exact BK231.out) hb);have n9_:=Ak (below_step (by repeat (first|(with_reducible first|exact HB.out|apply below_alloc|apply pw_below_drewN|apply below_drew1|refine below_set ?_ GE213.out|refine below_set ?_ GE214.out|refine below_set ?_ GE231.out)|exact HB.out)) hb);clear HO218;clear HO221;clear HO224;clear HO227;clear HO230;clear BK213;clear BK214;clear BK231;clear HB;have HO218:=n0_;have HO221:=n1_;have HO224:=n2_;have HO227:=n3_;have HO230:=n4_;have HO234:=n5_;have BK213:=n6_;have BK214:=n7_;have BK231:=n8_;have HB:=n9_;clear n0_ n1_ n2_ n3_ n4_ n5_ n6_ n7_ n8_ n9_;clear hb ho24;have hcz25_0:w23.cell? ⟨gb213,0,none⟩=some (.slice A0_0 l0_0.length c0_0):=(blk_cell BK213.out 0).trans rfl;have hcz25_1:w23.cell? ⟨gb213,1,none⟩=some (.slice A0_1 l0_1.length c0_1):=(blk_cell BK213.out 1).trans rfl;have hcz25_2:w23.cell? ⟨gb213,2,none⟩=some (.slice A0_2 l0_2.length c0_2):=(blk_cell BK213.out 2).trans rfl;have hcz25_3:w23.cell? ⟨gb213,3,none⟩=some (.slice A0_3 l0_3.length c0_3):=(blk_cell BK213.out 3).trans rfl;have hcz25_4:w23.cell? ⟨gb213,4,none⟩=some (.slice A0_4 l0_4.length c0_4):=(blk_cell BK213.out 4).trans rfl;have hfz25_0:=blk_frozen BK213.out 0;have hfz25_1:=blk_frozen BK213.out 1;have hfz25_2:=blk_frozen BK213.out 2;have hfz25_3:=blk_frozen BK213.out 3;have hfz25_4:=blk_frozen BK213.out 4)|((with_reducible refine gate_builtin (b:=.append) (xs:=#[.tmp 10,.tmp 12]) rfl ?_);at_builtin;refine Kd.R_append_rows Kd.string (w0:=w) w.heap.size rfl (.tmp 10) (.tmp 12) 23 9 (.string ⟨#[]⟩) 16 rfl Try.underlying23 info9 rfl (by decide) (by omega) v233 y232 l0_1 _ _ _ (fun k_=>some k_ ≠ (.slice Ao15 t216.length co15:Value).ownBlock∧some k_ ≠ (.slice Ao19 t219.length co19:Value).ownBlock) (fun _=>False) rfl rfl ?aO ?aR (fun _ _ h=>h) (fun _ h=>h.elim) ?aF ?aB ?aS ?aL ?_;(case aR=>repeat (first|exact (Kd.C_below HR0_1.out HB.out)|(with_reducible refine Kd.C_alloc ?_ _)|(with_reducible refine Kd.C_drewN ?_ _)|(with_reducible refine Kd.C_drew ?_)));(case aB=>exact (by repeat (first|(with_reducible first|exact HB.out|apply below_alloc|apply pw_below_drewN|apply below_drew1|refine below_set ?_ GE213.out|refine below_set ?_ GE214.out|refine below_set ?_ GE231.out)|exact HB.out)));(case aF=>exact (fun k_ hk=>⟨Kd.fresh' (Kd.R_lt (by (with_reducible repeat (first|apply Kd.R_alloc|apply Kd.R_drewN|apply Kd.R_drew));exact HO218.out)) k_ hk,Kd.fresh' (Kd.R_lt (by (with_reducible repeat (first|apply Kd.R_alloc|apply Kd.R_drewN|apply Kd.R_drew));exact HO221.out)) k_ hk⟩));(case aO=>exact (by (with_reducible repeat (first|apply Kd.R_alloc|apply Kd.R_drewN|apply Kd.R_drew));exact Kd.R_mono HO234.out (fun _ hk=>⟨hk.1.2,hk.2⟩)));(case aS=>exact (below_size (by repeat (first|(with_reducible first|exact HB.out|apply below_alloc|apply pw_below_drewN|apply below_drew1|refine below_set ?_ GE213.out|refine below_set ?_ GE214.out|refine below_set ?_ GE231.out)|exact HB.out))));(case aL=>have:=LMc5.out;omega);intro v236 w26 ho hb hg hat;rw [← Ny235.out] at ho;have n0_:=Ak (blk_grown (g:=gb213) (o:=.cells #[.slice A0_0 l0_0.length c0_0,.slice A0_1 l0_1.length c0_1,.slice A0_2 l0_2.length c0_2,.slice A0_3 l0_3.length c0_3,.slice A0_4 l0_4.length c0_4] 26 (0,0)) (by (with_reducible repeat (first|refine blk_drewN ?_ _|refine blk_drew ?_|refine blk_alloc ?_ _));exact BK213.out) hg (Kd.R_ne HO234.out BK213.out (by decide)));have n1_:=Ak (blk_grown (g:=gb214) (o:=.cells #[.slice none 0 0,.slice none 0 0,.slice none 0 0,.slice none 0 0,.slice none 0 0] 26 (0,0)) (by (with_reducible repeat (first|refine blk_drewN ?_ _|refine blk_drew ?_|refine blk_alloc ?_ _));exact BK214.out) hg (Kd.R_ne HO234.out BK214.out (by decide)));have n2_:=Ak (Kd.R_after (ok:=(fun k_=>some k_ ≠ (.slice Ao19 t219.length co19:Value).ownBlock)) (by (with_reducible repeat (first|apply Kd.R_alloc|apply Kd.R_drewN|apply Kd.R_drew));exact HO218.out) hg hat);have n3_:=Ak (Kd.R_after (ok:=(fun k_=>some k_ ≠ (.slice Ao15 t216.length co15:Value).ownBlock)) (by (with_reducible repeat (first|apply Kd.R_alloc|apply Kd.R_drewN|apply Kd.R_drew));exact HO221.out) hg hat);have n4_:=Ak (Kd.R_over' (by (with_reducible repeat (first|apply Kd.R_alloc|apply Kd.R_drewN|apply Kd.R_drew));exact HO224.out) (Kd.R_typed (by (with_reducible repeat (first|apply Kd.R_alloc|apply Kd.R_drewN|apply Kd.R_drew));exact HO234.out)) (by decide) hg);have n5_:=Ak (Kd.R_over' (by (with_reducible repeat (first|apply Kd.R_alloc|apply Kd.R_drewN|apply Kd.R_drew));exact HO227.out) (Kd.R_typed (by (with_reducible repeat (first|apply Kd.R_alloc|apply Kd.R_drewN|apply Kd.R_drew));exact HO234.out)) (by decide) hg);have n6_:=Ak (Kd.R_over' (by (with_reducible repeat (first|apply Kd.R_alloc|apply Kd.R_drewN|apply Kd.R_drew));exact HO230.out) (Kd.R_typed (by (with_reducible repeat (first|apply Kd.R_alloc|apply Kd.R_drewN|apply Kd.R_drew));exact HO234.out)) (by decide) hg);have n7_:=Ak (blk_grown (g:=gb231) (o:=.cells #[.slice Ao15 t216.length co15,.slice Ao19 t219.length co19,.slice Ao20 t222.length co20,.slice Ao21 t225.length co21,.slice Ao22 t228.length co22] 26 (0,0)) (by (with_reducible repeat (first|refine blk_drewN ?_ _|refine blk_drew ?_|refine blk_alloc ?_ _));exact BK231.out) hg (Kd.R_ne HO234.out BK231.out (by decide)));have n8_:=Ak (hb);have n9_:=Ak (ho);clear BK213;clear BK214;clear HO218;clear HO221;clear HO224;clear HO227;clear HO230;clear BK231;clear HB;clear HO234;have BK213:=n0_;have BK214:=n1_;have HO218:=n2_;have HO221:=n3_;have HO224:=n4_;have HO227:=n5_;have HO230:=n6_;have BK231:=n7_;have HB:=n8_;have HO237:=n9_;clear n0_ n1_ n2_ n3_ n4_ n5_ n6_ n7_ n8_ n9_;clear ho hb hg hat;obtain ⟨Ao27,co27,eo27⟩:=Kd.R_slice HO237.out;subst eo27;have hcz28_0:w26.cell? ⟨gb231,0,none⟩=some (.slice Ao15 t216.length co15):=(blk_cell BK231.out 0).trans rfl;have hcz28_1:w26.cell? ⟨gb231,1,none⟩=some (.slice Ao19 t219.length co19):=(blk_cell BK231.out 1).trans rfl;have hcz28_2:w26.cell? ⟨gb231,2,none⟩=some (.slice Ao20 t222.length co20):=(blk_cell BK231.out 2).trans rfl;have hcz28_3:w26.cell? ⟨gb231,3,none⟩=some (.slice Ao21 t225.length co21):=(blk_cell BK231.out 3).trans rfl;have hcz28_4:w26.cell? ⟨gb231,4,none⟩=some (.slice Ao22 t228.length co22):=(blk_cell BK231.out 4).trans rfl;have hfz28_0:=blk_frozen BK231.out 0;have hfz28_1:=blk_frozen BK231.out 1;have hfz28_2:=blk_frozen BK231.out 2;have hfz28_3:=blk_frozen BK231.out 3;have hfz28_4:=blk_frozen BK231.out 4)|((with_reducible refine gate_dst (N:=15) rfl ?_);refine Kd.R_lit (Kd.int .i64) _ 3 ?hg (N:=15) ?hd (xs:=([]:List Int)) (inner:=[]) (ok:=fun _=>True) (okp:=fun _=>True) ?hr ?hp (fun _ hk=>hk) trivial (Below.refl _ _) (Nat.le_refl _) (by simp) ?_;(case hd=>rfl);(case hg=>rfl);(case hr=>first|(go_simp;done)|(go_simp;rfl));(case hp=>exact (Reps.none _ _));intro v239 w29 ho30 hb hg_ hnew_;clear hg_ hnew_;(first|rw [← Ny238.out] at ho30|(simp only [Int.reduceToNat] at ho30;rw [← Ny238.out] at ho30));have n0_:=Ak (Kd.R_below (by (with_reducible repeat (first|apply Kd.R_alloc|apply Kd.R_drewN|apply Kd.R_drew));exact (Kd.R_mono (Kd.R_far (p:=⟨gb231,0,none⟩) (Kd.R_types HO218.out BK231.out (by decide)) (fun _ hk=>hk.2) (.slice Ao27 y235.length co27)) (fun _ h_=>h_.1))) hb);have n1_:=Ak (Kd.R_below (by (with_reducible repeat (first|apply Kd.R_alloc|apply Kd.R_drewN|apply Kd.R_drew));exact (Kd.R_mono (Kd.R_far (p:=⟨gb231,0,none⟩) (Kd.R_types HO221.out BK231.out (by decide)) (fun _ hk=>hk.2) (.slice Ao27 y235.length co27)) (fun _ h_=>h_.1))) hb);have n2_:=Ak (Kd.R_elder' (by (with_reducible repeat (first|apply Kd.R_alloc|apply Kd.R_drewN|apply Kd.R_drew));exact (Kd.R_mono (Kd.R_far (p:=⟨gb231,0,none⟩) (Kd.R_types HO224.out BK231.out (by decide)) (fun _ hk=>hk.2) (.slice Ao27 y235.length co27)) (fun _ h_=>h_.1))) (Kd.R_base ho30) hb);have n3_:=Ak (Kd.R_elder' (by (with_reducible repeat (first|apply Kd.R_alloc|apply Kd.R_drewN|apply Kd.R_drew));exact (Kd.R_mono (Kd.R_far (p:=⟨gb231,0,none⟩) (Kd.R_types HO227.out BK231.out (by decide)) (fun _ hk=>hk.2) (.slice Ao27 y235.length co27)) (fun _ h_=>h_.1))) (Kd.R_base ho30) hb);have n4_:=Ak (Kd.R_elder' (by (with_reducible repeat (first|apply Kd.R_alloc|apply Kd.R_drewN|apply Kd.R_drew));exact (Kd.R_mono (Kd.R_far (p:=⟨gb231,0,none⟩) (Kd.R_types HO230.out BK231.out (by decide)) (fun _ hk=>hk.2) (.slice Ao27 y235.length co27)) (fun _ h_=>h_.1))) (Kd.R_base ho30) hb);have n5_:=Ak (Kd.R_below (by (with_reducible repeat (first|apply Kd.R_alloc|apply Kd.R_drewN|apply Kd.R_drew));exact (Kd.R_mono (Kd.R_far (p:=⟨gb231,0,none⟩) (Kd.R_types HO237.out BK231.out (by decide)) (fun _ hk=>hk.2) (.slice Ao27 y235.length co27)) (fun _ h_=>h_.1))) hb);have n6_:=Ak (Kd.R_lower (Kd.R_new' (Kd.R_new' (Kd.R_new' ho30 (Kd.R_lt (by (with_reducible repeat (first|apply Kd.R_alloc|apply Kd.R_drewN|apply Kd.R_drew));exact (Kd.R_mono (Kd.R_far (p:=⟨gb231,0,none⟩) (Kd.R_types HO224.out BK231.out (by decide)) (fun _ hk=>hk.2) (.slice Ao27 y235.length co27)) (fun _ h_=>h_.1))))) (Kd.R_lt (by (with_reducible repeat (first|apply Kd.R_alloc|apply Kd.R_drewN|apply Kd.R_drew));exact (Kd.R_mono (Kd.R_far (p:=⟨gb231,0,none⟩) (Kd.R_types HO227.out BK231.out (by decide)) (fun _ hk=>hk.2) (.slice Ao27 y235.length co27)) (fun _ h_=>h_.1))))) (Kd.R_lt (by (with_reducible repeat (first|apply Kd.R_alloc|apply Kd.R_drewN|apply Kd.R_drew));exact (Kd.R_mono (Kd.R_far (p:=⟨gb231,0,none⟩) (Kd.R_types HO230.out BK231.out (by decide)) (fun _ hk=>hk.2) (.slice Ao27 y235.length co27)) (fun _ h_=>h_.1))))) (below_size (by repeat (first|(with_reducible first|exact HB.out|apply below_alloc|apply pw_below_drewN|apply below_drew1|refine below_set ?_ GE213.out|refine below_set ?_ GE214.out|refine below_set ?_ GE231.out)|exact HB.out))));have n7_:=Ak (blk_below (g:=gb213) (o:=.cells #[.slice A0_0 l0_0.length c0_0,.slice A0_1 l0_1.length c0_1,.slice A0_2 l0_2.length c0_2,.slice A0_3 l0_3.length c0_3,.slice A0_4 l0_4.length c0_4] 26 (0,0)) (by (with_reducible repeat (first|refine blk_drewN ?_ _|refine blk_drew ?_|refine blk_alloc ?_ _));refine blk_far ?_ NB213_231.out _;(with_reducible repeat (first|refine blk_drewN ?_ _|refine blk_drew ?_|refine blk_alloc ?_ _));exact BK213.out) hb);have n8_:=Ak (blk_below (g:=gb214) (o:=.cells #[.slice none 0 0,.slice none 0 0,.slice none 0 0,.slice none 0 0,.slice none 0 0] 26 (0,0)) (by (with_reducible repeat (first|refine blk_drewN ?_ _|refine blk_drew ?_|refine blk_alloc ?_ _));refine blk_far ?_ NB214_231.out _;(with_reducible repeat (first|refine blk_drewN ?_ _|refine blk_drew ?_|refine blk_alloc ?_ _));exact BK214.out) hb);have n9_:=Ak (blk_below (g:=gb231) (o:=.cells #[.slice Ao27 y235.length co27,.slice Ao19 t219.length co19,.slice Ao20 t222.length co20,.slice Ao21 t225.length co21,.slice Ao22 t228.length co22] 26 (0,0)) (by (with_reducible repeat (first|refine blk_drewN ?_ _|refine blk_drew ?_|refine blk_alloc ?_ _));refine blk_put (cs:=#[.slice Ao15 t216.length co15,.slice Ao19 t219.length co19,.slice Ao20 t222.length co20,.slice Ao21 t225.length co21,.slice Ao22 t228.length co22]) ?_ 0 _ rfl;(with_reducible repeat (first|refine blk_drewN ?_ _|refine blk_drew ?_|refine blk_alloc ?_ _));exact BK231.out) hb);have n10_:=Ak (below_step (by repeat (first|(with_reducible first|exact HB.out|apply below_alloc|apply pw_below_drewN|apply below_drew1|refine below_set ?_ GE213.out|refine below_set ?_ GE214.out|refine below_set ?_ GE231.out)|exact HB.out)) hb);clear HO218;clear HO221;clear HO224;clear HO227;clear HO230;clear HO237;clear BK213;clear BK214;clear BK231;clear HB;have HO218:=n0_;have HO221:=n1_;have HO224:=n2_;have HO227:=n3_;have HO230:=n4_;have HO237:=n5_;have HO240:=n6_;have BK213:=n7_;have BK214:=n8_;have BK231:=n9_;have HB:=n10_;clear n0_ n1_ n2_ n3_ n4_ n5_ n6_ n7_ n8_ n9_ n10_;clear hb ho30;have hcz31_0:w29.cell? ⟨gb213,0,none⟩=some (.slice A0_0 l0_0.length c0_0):=(blk_cell BK213.out 0).trans rfl;have hcz31_1:w29.cell? ⟨gb213,1,none⟩=some (.slice A0_1 l0_1.length c0_1):=(blk_cell BK213.out 1).trans rfl;have hcz31_2:w29.cell? ⟨gb213,2,none⟩=some (.slice A0_2 l0_2.length c0_2):=(blk_cell BK213.out 2).trans rfl;have hcz31_3:w29.cell? ⟨gb213,3,none⟩=some (.slice A0_3 l0_3.length c0_3):=(blk_cell BK213.out 3).trans rfl;have hcz31_4:w29.cell? ⟨gb213,4,none⟩=some (.slice A0_4 l0_4.length c0_4):=(blk_cell BK213.out 4).trans rfl;have hfz31_0:=blk_frozen BK213.out 0;have hfz31_1:=blk_frozen BK213.out 1;have hfz31_2:=blk_frozen BK213.out 2;have hfz31_3:=blk_frozen BK213.out 3;have hfz31_4:=blk_frozen BK213.out 4)|((with_reducible refine gate_builtin (b:=.append) (xs:=#[.tmp 15,.tmp 17]) rfl ?_);at_builtin;refine Kd.R_append_rows (Kd.int .i64) (w0:=w) w.heap.size rfl (.tmp 15) (.tmp 17) 24 3 (.int .i64 0) 8 rfl Try.underlying24 info3 rfl (by decide) (by omega) v239 y238 l0_3 _ _ _ (fun k_=>some k_ ≠ (.slice Ao20 t222.length co20:Value).ownBlock∧some k_ ≠ (.slice Ao21 t225.length co21:Value).ownBlock∧some k_ ≠ (.slice Ao22 t228.length co22:Value).ownBlock) (fun _=>False) rfl rfl ?aO ?aR (fun _ _ h=>h) (fun _ h=>h.elim) ?aF ?aB ?aS ?aL ?_;(case aR=>repeat (first|exact (Kd.C_below HR0_3.out HB.out)|(with_reducible refine Kd.C_alloc ?_ _)|(with_reducible refine Kd.C_drewN ?_ _)|(with_reducible refine Kd.C_drew ?_)));(case aB=>exact (by repeat (first|(with_reducible first|exact HB.out|apply below_alloc|apply pw_below_drewN|apply below_drew1|refine below_set ?_ GE213.out|refine below_set ?_ GE214.out|refine below_set ?_ GE231.out)|exact HB.out)));(case aF=>exact (fun k_ hk=>⟨Kd.fresh' (Kd.R_lt (by (with_reducible repeat (first|apply Kd.R_alloc|apply Kd.R_drewN|apply Kd.R_drew));exact HO224.out)) k_ hk,Kd.fresh' (Kd.R_lt (by (with_reducible repeat (first|apply Kd.R_alloc|apply Kd.R_drewN|apply Kd.R_drew));exact HO227.out)) k_ hk,Kd.fresh' (Kd.R_lt (by (with_reducible repeat (first|apply Kd.R_alloc|apply Kd.R_drewN|apply Kd.R_drew));exact HO230.out)) k_ hk⟩));(case aO=>exact (by (with_reducible repeat (first|apply Kd.R_alloc|apply Kd.R_drewN|apply Kd.R_drew));exact Kd.R_mono HO240.out (fun _ hk=>⟨hk.1.1.2,⟨hk.1.2,hk.2⟩⟩)));(case aS=>exact (below_size (by repeat (first|(with_reducible first|exact HB.out|apply below_alloc|apply pw_below_drewN|apply below_drew1|refine below_set ?_ GE213.out|refine below_set ?_ GE214.out|refine below_set ?_ GE231.out)|exact HB.out))));(case aL=>have:=LMc6.out;omega);intro v242 w32 ho hb hg hat;rw [← Ny241.out] at ho;have n0_:=Ak (blk_grown (g:=gb213) (o:=.cells #[.slice A0_0 l0_0.length c0_0,.slice A0_1 l0_1.length c0_1,.slice A0_2 l0_2.length c0_2,.slice A0_3 l0_3.length c0_3,.slice A0_4 l0_4.length c0_4] 26 (0,0)) (by (with_reducible repeat (first|refine blk_drewN ?_ _|refine blk_drew ?_|refine blk_alloc ?_ _));exact BK213.out) hg (Kd.R_ne HO240.out BK213.out (by decide)));have n1_:=Ak (blk_grown (g:=gb214) (o:=.cells #[.slice none 0 0,.slice none 0 0,.slice none 0 0,.slice none 0 0,.slice none 0 0] 26 (0,0)) (by (with_reducible repeat (first|refine blk_drewN ?_ _|refine blk_drew ?_|refine blk_alloc ?_ _));exact BK214.out) hg (Kd.R_ne HO240.out BK214.out (by decide)));have n2_:=Ak (Kd.R_over' (by (with_reducible repeat (first|apply Kd.R_alloc|apply Kd.R_drewN|apply Kd.R_drew));exact HO218.out) (Kd.R_typed (by (with_reducible repeat (first|apply Kd.R_alloc|apply Kd.R_drewN|apply Kd.R_drew));exact HO240.out)) (by decide) hg);have n3_:=Ak (Kd.R_over' (by (with_reducible repeat (first|apply Kd.R_alloc|apply Kd.R_drewN|apply Kd.R_drew));exact HO221.out) (Kd.R_typed (by (with_reducible repeat (first|apply Kd.R_alloc|apply Kd.R_drewN|apply Kd.R_drew));exact HO240.out)) (by decide) hg);have n4_:=Ak (Kd.R_after (ok:=(fun k_=>some k_ ≠ (.slice Ao21 t225.length co21:Value).ownBlock∧some k_ ≠ (.slice Ao22 t228.length co22:Value).ownBlock)) (by (with_reducible repeat (first|apply Kd.R_alloc|apply Kd.R_drewN|apply Kd.R_drew));exact HO224.out) hg hat);have n5_:=Ak (Kd.R_after (ok:=(fun k_=>some k_ ≠ (.slice Ao20 t222.length co20:Value).ownBlock∧some k_ ≠ (.slice Ao22 t228.length co22:Value).ownBlock)) (by (with_reducible repeat (first|apply Kd.R_alloc|apply Kd.R_drewN|apply Kd.R_drew));exact HO227.out) hg hat);have n6_:=Ak (Kd.R_after (ok:=(fun k_=>some k_ ≠ (.slice Ao20 t222.length co20:Value).ownBlock∧some k_ ≠ (.slice Ao21 t225.length co21:Value).ownBlock)) (by (with_reducible repeat (first|apply Kd.R_alloc|apply Kd.R_drewN|apply Kd.R_drew));exact HO230.out) hg hat);have n7_:=Ak (blk_grown (g:=gb231) (o:=.cells #[.slice Ao27 y235.length co27,.slice Ao19 t219.length co19,.slice Ao20 t222.length co20,.slice Ao21 t225.length co21,.slice Ao22 t228.length co22] 26 (0,0)) (by (with_reducible repeat (first|refine blk_drewN ?_ _|refine blk_drew ?_|refine blk_alloc ?_ _));exact BK231.out) hg (Kd.R_ne HO240.out BK231.out (by decide)));have n8_:=Ak (Kd.R_over' (by (with_reducible repeat (first|apply Kd.R_alloc|apply Kd.R_drewN|apply Kd.R_drew));exact HO237.out) (Kd.R_typed (by (with_reducible repeat (first|apply Kd.R_alloc|apply Kd.R_drewN|apply Kd.R_drew));exact HO240.out)) (by decide) hg);have n9_:=Ak (hb);have n10_:=Ak (ho);clear BK213;clear BK214;clear HO218;clear HO221;clear HO224;clear HO227;clear HO230;clear BK231;clear HO237;clear HB;clear HO240;have BK213:=n0_;have BK214:=n1_;have HO218:=n2_;have HO221:=n3_;have HO224:=n4_;have HO227:=n5_;have HO230:=n6_;have BK231:=n7_;have HO237:=n8_;have HB:=n9_;have HO243:=n10_;clear n0_ n1_ n2_ n3_ n4_ n5_ n6_ n7_ n8_ n9_ n10_;clear ho hb hg hat;obtain ⟨Ao33,co33,eo33⟩:=Kd.R_slice HO243.out;subst eo33;have hcz34_0:w32.cell? ⟨gb231,0,none⟩=some (.slice Ao27 y235.length co27):=(blk_cell BK231.out 0).trans rfl;have hcz34_1:w32.cell? ⟨gb231,1,none⟩=some (.slice Ao19 t219.length co19):=(blk_cell BK231.out 1).trans rfl;have hcz34_2:w32.cell? ⟨gb231,2,none⟩=some (.slice Ao20 t222.length co20):=(blk_cell BK231.out 2).trans rfl;have hcz34_3:w32.cell? ⟨gb231,3,none⟩=some (.slice Ao21 t225.length co21):=(blk_cell BK231.out 3).trans rfl;have hcz34_4:w32.cell? ⟨gb231,4,none⟩=some (.slice Ao22 t228.length co22):=(blk_cell BK231.out 4).trans rfl;have hfz34_0:=blk_frozen BK231.out 0;have hfz34_1:=blk_frozen BK231.out 1;have hfz34_2:=blk_frozen BK231.out 2;have hfz34_3:=blk_frozen BK231.out 3;have hfz34_4:=blk_frozen BK231.out 4;have hcz35_0:w32.cell? ⟨gb214,0,none⟩=some (.slice none 0 0):=(blk_cell BK214.out 0).trans rfl;have hcz35_1:w32.cell? ⟨gb214,1,none⟩=some (.slice none 0 0):=(blk_cell BK214.out 1).trans rfl;have hcz35_2:w32.cell? ⟨gb214,2,none⟩=some (.slice none 0 0):=(blk_cell BK214.out 2).trans rfl;have hcz35_3:w32.cell? ⟨gb214,3,none⟩=some (.slice none 0 0):=(blk_cell BK214.out 3).trans rfl;have hcz35_4:w32.cell? ⟨gb214,4,none⟩=some (.slice none 0 0):=(blk_cell BK214.out 4).trans rfl;have hfz35_0:=blk_frozen BK214.out 0;have hfz35_1:=blk_frozen BK214.out 1;have hfz35_2:=blk_frozen BK214.out 2;have hfz35_3:=blk_frozen BK214.out 3;have hfz35_4:=blk_frozen BK214.out 4))
    refine bodyPost_ret (results_cell_row rfl _ _ gb214 26 #[.slice Ao27 y235.length co27,.slice Ao19 t219.length co19,.slice Ao33 y241.length co33,.slice Ao21 t225.length co21,.slice Ao22 t228.length co22] (0,0) _ rfl (by (with_reducible repeat (first|refine blk_drewN ?_ _|refine blk_drew ?_|refine blk_alloc ?_ _));refine blk_put (cs:=#[.slice Ao27 y235.length co27,.slice Ao19 t219.length co19,.slice Ao33 y241.length co33,.slice Ao21 t225.length co21,.slice none 0 0]) ?_ 4 _ rfl;(with_reducible repeat (first|refine blk_drewN ?_ _|refine blk_drew ?_|refine blk_alloc ?_ _));refine blk_put (cs:=#[.slice Ao27 y235.length co27,.slice Ao19 t219.length co19,.slice Ao33 y241.length co33,.slice none 0 0,.slice none 0 0]) ?_ 3 _ rfl;(with_reducible repeat (first|refine blk_drewN ?_ _|refine blk_drew ?_|refine blk_alloc ?_ _));refine blk_put (cs:=#[.slice Ao27 y235.length co27,.slice Ao19 t219.length co19,.slice none 0 0,.slice none 0 0,.slice none 0 0]) ?_ 2 _ rfl;(with_reducible repeat (first|refine blk_drewN ?_ _|refine blk_drew ?_|refine blk_alloc ?_ _));refine blk_put (cs:=#[.slice Ao27 y235.length co27,.slice none 0 0,.slice none 0 0,.slice none 0 0,.slice none 0 0]) ?_ 1 _ rfl;(with_reducible repeat (first|refine blk_drewN ?_ _|refine blk_drew ?_|refine blk_alloc ?_ _));refine blk_put (cs:=#[.slice none 0 0,.slice none 0 0,.slice none 0 0,.slice none 0 0,.slice none 0 0]) ?_ 0 _ rfl;(with_reducible repeat (first|refine blk_drewN ?_ _|refine blk_drew ?_|refine blk_alloc ?_ _));refine blk_far ?_ NB214_231.out _;(with_reducible repeat (first|refine blk_drewN ?_ _|refine blk_drew ?_|refine blk_alloc ?_ _));exact BK214.out) Try.underlying26 rfl (by kernel_rfl)) rfl ?_
    exact ⟨_,_,_,_,_,by first|rfl|(simp [errW_none,errW_some] <;> rfl)|(simp [*,errW_none,errW_some] <;> rfl),by (with_reducible repeat (first|apply Kd.R_alloc|apply Kd.R_drewN|apply Kd.R_drew));exact Kd.R_mono (Kd.R_far (p:=⟨gb214,4,none⟩) (Kd.R_far (p:=⟨gb214,3,none⟩) (Kd.R_far (p:=⟨gb214,2,none⟩) (Kd.R_far (p:=⟨gb214,1,none⟩) (Kd.R_far (p:=⟨gb214,0,none⟩) (Kd.R_far (p:=⟨gb231,2,none⟩) (Kd.R_types (Kd.R_types HO237.out BK231.out (by decide)) BK214.out (by decide)) (fun _ hk=>hk.1.2) (.slice Ao33 y241.length co33)) (fun _ hk=>hk.2) (.slice Ao27 y235.length co27)) (fun _ hk=>hk.2) (.slice Ao19 t219.length co19)) (fun _ hk=>hk.2) (.slice Ao33 y241.length co33)) (fun _ hk=>hk.2) (.slice Ao21 t225.length co21)) (fun _ hk=>hk.2) (.slice Ao22 t228.length co22)) (fun _ hk=>hk.1.1.2),by (with_reducible repeat (first|apply Kd.R_alloc|apply Kd.R_drewN|apply Kd.R_drew));exact Kd.R_mono (Kd.R_far (p:=⟨gb214,4,none⟩) (Kd.R_far (p:=⟨gb214,3,none⟩) (Kd.R_far (p:=⟨gb214,2,none⟩) (Kd.R_far (p:=⟨gb214,1,none⟩) (Kd.R_far (p:=⟨gb214,0,none⟩) (Kd.R_far (p:=⟨gb231,2,none⟩) (Kd.R_types (Kd.R_types HO221.out BK231.out (by decide)) BK214.out (by decide)) (fun _ hk=>hk.1.2) (.slice Ao33 y241.length co33)) (fun _ hk=>hk.2) (.slice Ao27 y235.length co27)) (fun _ hk=>hk.2) (.slice Ao19 t219.length co19)) (fun _ hk=>hk.2) (.slice Ao33 y241.length co33)) (fun _ hk=>hk.2) (.slice Ao21 t225.length co21)) (fun _ hk=>hk.2) (.slice Ao22 t228.length co22)) (fun _ hk=>hk.1.1.2),by (with_reducible repeat (first|apply Kd.R_alloc|apply Kd.R_drewN|apply Kd.R_drew));exact Kd.R_mono (Kd.R_far (p:=⟨gb214,4,none⟩) (Kd.R_far (p:=⟨gb214,3,none⟩) (Kd.R_far (p:=⟨gb214,2,none⟩) (Kd.R_far (p:=⟨gb214,1,none⟩) (Kd.R_far (p:=⟨gb214,0,none⟩) (Kd.R_far (p:=⟨gb231,2,none⟩) (Kd.R_types (Kd.R_types HO243.out BK231.out (by decide)) BK214.out (by decide)) (fun _ hk=>hk.1.2) (.slice Ao33 y241.length co33)) (fun _ hk=>hk.2) (.slice Ao27 y235.length co27)) (fun _ hk=>hk.2) (.slice Ao19 t219.length co19)) (fun _ hk=>hk.2) (.slice Ao33 y241.length co33)) (fun _ hk=>hk.2) (.slice Ao21 t225.length co21)) (fun _ hk=>hk.2) (.slice Ao22 t228.length co22)) (fun _ hk=>⟨hk.1.1.2.1,hk.1.1.2.2⟩),by (with_reducible repeat (first|apply Kd.R_alloc|apply Kd.R_drewN|apply Kd.R_drew));exact Kd.R_mono (Kd.R_far (p:=⟨gb214,4,none⟩) (Kd.R_far (p:=⟨gb214,3,none⟩) (Kd.R_far (p:=⟨gb214,2,none⟩) (Kd.R_far (p:=⟨gb214,1,none⟩) (Kd.R_far (p:=⟨gb214,0,none⟩) (Kd.R_far (p:=⟨gb231,2,none⟩) (Kd.R_types (Kd.R_types HO227.out BK231.out (by decide)) BK214.out (by decide)) (fun _ hk=>hk.1.2) (.slice Ao33 y241.length co33)) (fun _ hk=>hk.2) (.slice Ao27 y235.length co27)) (fun _ hk=>hk.2) (.slice Ao19 t219.length co19)) (fun _ hk=>hk.2) (.slice Ao33 y241.length co33)) (fun _ hk=>hk.2) (.slice Ao21 t225.length co21)) (fun _ hk=>hk.2) (.slice Ao22 t228.length co22)) (fun _ hk=>⟨hk.1.1.2,hk.1.1.1.2⟩),by (with_reducible repeat (first|apply Kd.R_alloc|apply Kd.R_drewN|apply Kd.R_drew));exact Kd.R_mono (Kd.R_far (p:=⟨gb214,4,none⟩) (Kd.R_far (p:=⟨gb214,3,none⟩) (Kd.R_far (p:=⟨gb214,2,none⟩) (Kd.R_far (p:=⟨gb214,1,none⟩) (Kd.R_far (p:=⟨gb214,0,none⟩) (Kd.R_far (p:=⟨gb231,2,none⟩) (Kd.R_types (Kd.R_types HO230.out BK231.out (by decide)) BK214.out (by decide)) (fun _ hk=>hk.1.2) (.slice Ao33 y241.length co33)) (fun _ hk=>hk.2) (.slice Ao27 y235.length co27)) (fun _ hk=>hk.2) (.slice Ao19 t219.length co19)) (fun _ hk=>hk.2) (.slice Ao33 y241.length co33)) (fun _ hk=>hk.2) (.slice Ao21 t225.length co21)) (fun _ hk=>hk.2) (.slice Ao22 t228.length co22)) (fun _ hk=>⟨hk.1.1.2,hk.1.1.1.2⟩),by repeat (first|(with_reducible first|exact HB.out|apply below_alloc|apply pw_below_drewN|apply below_drew1|refine below_set ?_ GE213.out|refine below_set ?_ GE214.out|refine below_set ?_ GE231.out)|exact HB.out)⟩
   ·rw [if_neg c6] at H
    exact absurd H (by simp)
  ·rw [if_neg c5] at H
   exact absurd H (by simp)
 ·replace c3:=Bool.eq_false_iff.mpr c3
  subst c3
  have H1:(some (([]:List ByteArray),([]:List ByteArray),([]:List Int),([]:List Int),([]:List Int)))=some (r1,r2,r3,r4,r5):=by rw [if_neg (show ¬ (false=true) by decide)] at H;exact H
  clear H
  have H:=H1
  clear H1
  simp only [Option.some.injEq,Prod.mk.injEq] at H
  obtain ⟨rfl,rfl,rfl,rfl,rfl⟩:=H
  go_enter Try.func35,Try.ntmps35
  go_wp2_with (first|((with_reducible refine gate_dst (N:=1) rfl ?_);refine box_event ?hg (N:=1) ?hd (cs:=#[.slice A0_0 l0_0.length c0_0,.slice A0_1 l0_1.length c0_1,.slice A0_2 l0_2.length c0_2,.slice A0_3 l0_3.length c0_3,.slice A0_4 l0_4.length c0_4]) (t:=26) ?hr ?_;(case hd=>rfl);(case hg=>rfl);(case hr=>first|(go_simp;done)|(go_simp;rfl));intro gb213 hg w36 hbox hb;have n0_:=Ak (below_step (by repeat (first|(with_reducible first|exact HB.out|apply below_alloc|apply pw_below_drewN|apply below_drew1)|exact HB.out)) hb);have n1_:=Ak (hbox);have n2_:=Ak ((by rw [hg];exact (below_size (by repeat (first|(with_reducible first|exact HB.out|apply below_alloc|apply pw_below_drewN|apply below_drew1)|exact HB.out))):w.heap.size≤gb213));have n3_:=Ak ((by rw [hg];exact (below_size (by repeat (first|(with_reducible first|exact HB.out|apply below_alloc|apply pw_below_drewN|apply below_drew1)|exact HB.out))):w.heap.size≤gb213));clear HB;have HB:=n0_;have BK213:=n1_;have GW213:=n2_;have GE213:=n3_;clear n0_ n1_ n2_ n3_;clear hb hbox hg)|((with_reducible refine gate_dst (N:=2) rfl ?_);refine box_event ?hg (N:=2) ?hd (cs:=#[.slice none 0 0,.slice none 0 0,.slice none 0 0,.slice none 0 0,.slice none 0 0]) (t:=26) ?hr ?_;(case hd=>rfl);(case hg=>rfl);(case hr=>first|(go_simp;done)|(go_simp;rfl));intro gb214 hg w37 hbox hb;have n0_:=Ak (blk_below (g:=gb213) (o:=.cells #[.slice A0_0 l0_0.length c0_0,.slice A0_1 l0_1.length c0_1,.slice A0_2 l0_2.length c0_2,.slice A0_3 l0_3.length c0_3,.slice A0_4 l0_4.length c0_4] 26 (0,0)) (by (with_reducible repeat (first|refine blk_drewN ?_ _|refine blk_drew ?_|refine blk_alloc ?_ _));exact BK213.out) hb);have n1_:=Ak (below_step (by repeat (first|(with_reducible first|exact HB.out|apply below_alloc|apply pw_below_drewN|apply below_drew1|refine below_set ?_ GE213.out)|exact HB.out)) hb);have n2_:=Ak (hbox);have n3_:=Ak ((by rw [hg];exact (below_size (by repeat (first|(with_reducible first|exact HB.out|apply below_alloc|apply pw_below_drewN|apply below_drew1|refine below_set ?_ GE213.out)|exact HB.out))):w.heap.size≤gb214));have n4_:=Ak ((by rw [hg];exact (below_size (by repeat (first|(with_reducible first|exact HB.out|apply below_alloc|apply pw_below_drewN|apply below_drew1|refine below_set ?_ GE213.out)|exact HB.out))):w.heap.size≤gb214));have n5_:=Ak ((by rw [hg];exact Nat.ne_of_lt (blk_lt (g:=gb213) (o:=.cells #[.slice A0_0 l0_0.length c0_0,.slice A0_1 l0_1.length c0_1,.slice A0_2 l0_2.length c0_2,.slice A0_3 l0_3.length c0_3,.slice A0_4 l0_4.length c0_4] 26 (0,0)) (by (with_reducible repeat (first|refine blk_drewN ?_ _|refine blk_drew ?_|refine blk_alloc ?_ _));exact BK213.out)):gb213 ≠ gb214));have n6_:=Ak ((by rw [hg];exact Nat.ne_of_gt (blk_lt (g:=gb213) (o:=.cells #[.slice A0_0 l0_0.length c0_0,.slice A0_1 l0_1.length c0_1,.slice A0_2 l0_2.length c0_2,.slice A0_3 l0_3.length c0_3,.slice A0_4 l0_4.length c0_4] 26 (0,0)) (by (with_reducible repeat (first|refine blk_drewN ?_ _|refine blk_drew ?_|refine blk_alloc ?_ _));exact BK213.out)):gb214 ≠ gb213));clear BK213;clear HB;have BK213:=n0_;have HB:=n1_;have BK214:=n2_;have GW214:=n3_;have GE214:=n4_;have NB213_214:=n5_;have NB214_213:=n6_;clear n0_ n1_ n2_ n3_ n4_ n5_ n6_;clear hb hbox hg;have hnb38:=NB213_214.out;have hnc38:=NB214_213.out;have hcz39_0:w37.cell? ⟨gb213,0,none⟩=some (.slice A0_0 l0_0.length c0_0):=(blk_cell BK213.out 0).trans rfl;have hcz39_1:w37.cell? ⟨gb213,1,none⟩=some (.slice A0_1 l0_1.length c0_1):=(blk_cell BK213.out 1).trans rfl;have hcz39_2:w37.cell? ⟨gb213,2,none⟩=some (.slice A0_2 l0_2.length c0_2):=(blk_cell BK213.out 2).trans rfl;have hcz39_3:w37.cell? ⟨gb213,3,none⟩=some (.slice A0_3 l0_3.length c0_3):=(blk_cell BK213.out 3).trans rfl;have hcz39_4:w37.cell? ⟨gb213,4,none⟩=some (.slice A0_4 l0_4.length c0_4):=(blk_cell BK213.out 4).trans rfl;have hfz39_0:=blk_frozen BK213.out 0;have hfz39_1:=blk_frozen BK213.out 1;have hfz39_2:=blk_frozen BK213.out 2;have hfz39_3:=blk_frozen BK213.out 3;have hfz39_4:=blk_frozen BK213.out 4)|((with_reducible refine gate_callee (f:=19) rfl ?_);refine goesL_ (some 5) rfl rfl Try.func19 (by kernel_rfl) rfl #[.agg #[.slice A0_0 l0_0.length c0_0,.slice A0_1 l0_1.length c0_1,.slice A0_2 l0_2.length c0_2,.slice A0_3 l0_3.length c0_3,.slice A0_4 l0_4.length c0_4]] rfl (by (try simp only [List.map_toArray,List.map_cons,List.map_nil]);first|done|rfl|(simp only [List.length_drop,List.length_take];rfl)) ?_;(with_reducible refine (spec_StoreOk.calls k _ _ l0_0 _ _ l0_1 _ _ l0_2 _ _ l0_3 _ _ l0_4 false _ ?side1 ?side2 ?side3 ?side4 ?side5 ?side6 ?side7 ?side8 ?side9 ?side10 A2.out).mono ?_);(case side1=>repeat (first|exact (Kd.C_below HR0_0.out HB.out)|(with_reducible refine Kd.C_alloc ?_ _)|(with_reducible refine Kd.C_drewN ?_ _)|(with_reducible refine Kd.C_drew ?_)));(case side2=>exact HC0_0.out);(case side3=>repeat (first|exact (Kd.C_below HR0_1.out HB.out)|(with_reducible refine Kd.C_alloc ?_ _)|(with_reducible refine Kd.C_drewN ?_ _)|(with_reducible refine Kd.C_drew ?_)));(case side4=>exact HC0_1.out);(case side5=>repeat (first|exact (Kd.C_below HR0_2.out HB.out)|(with_reducible refine Kd.C_alloc ?_ _)|(with_reducible refine Kd.C_drewN ?_ _)|(with_reducible refine Kd.C_drew ?_)));(case side6=>exact HC0_2.out);(case side7=>repeat (first|exact (Kd.C_below HR0_3.out HB.out)|(with_reducible refine Kd.C_alloc ?_ _)|(with_reducible refine Kd.C_drewN ?_ _)|(with_reducible refine Kd.C_drew ?_)));(case side8=>exact HC0_3.out);(case side9=>repeat (first|exact (Kd.C_below HR0_4.out HB.out)|(with_reducible refine Kd.C_alloc ?_ _)|(with_reducible refine Kd.C_drewN ?_ _)|(with_reducible refine Kd.C_drew ?_)));(case side10=>exact HC0_4.out);rintro e w40 ⟨rfl,hb⟩;refine ⟨_,rfl,?_⟩;have n0_:=Ak (blk_below (g:=gb213) (o:=.cells #[.slice A0_0 l0_0.length c0_0,.slice A0_1 l0_1.length c0_1,.slice A0_2 l0_2.length c0_2,.slice A0_3 l0_3.length c0_3,.slice A0_4 l0_4.length c0_4] 26 (0,0)) (by (with_reducible repeat (first|refine blk_drewN ?_ _|refine blk_drew ?_|refine blk_alloc ?_ _));exact BK213.out) hb);have n1_:=Ak (blk_below (g:=gb214) (o:=.cells #[.slice none 0 0,.slice none 0 0,.slice none 0 0,.slice none 0 0,.slice none 0 0] 26 (0,0)) (by (with_reducible repeat (first|refine blk_drewN ?_ _|refine blk_drew ?_|refine blk_alloc ?_ _));exact BK214.out) hb);have n2_:=Ak (below_step (by repeat (first|(with_reducible first|exact HB.out|apply below_alloc|apply pw_below_drewN|apply below_drew1|refine below_set ?_ GE213.out|refine below_set ?_ GE214.out)|exact HB.out)) hb);clear BK213;clear BK214;clear HB;have BK213:=n0_;have BK214:=n1_;have HB:=n2_;clear n0_ n1_ n2_;(try clear hb);(try clear hb2);(try clear hk);(try clear hi);have hcz41_0:w40.cell? ⟨gb214,0,none⟩=some (.slice none 0 0):=(blk_cell BK214.out 0).trans rfl;have hcz41_1:w40.cell? ⟨gb214,1,none⟩=some (.slice none 0 0):=(blk_cell BK214.out 1).trans rfl;have hcz41_2:w40.cell? ⟨gb214,2,none⟩=some (.slice none 0 0):=(blk_cell BK214.out 2).trans rfl;have hcz41_3:w40.cell? ⟨gb214,3,none⟩=some (.slice none 0 0):=(blk_cell BK214.out 3).trans rfl;have hcz41_4:w40.cell? ⟨gb214,4,none⟩=some (.slice none 0 0):=(blk_cell BK214.out 4).trans rfl;have hfz41_0:=blk_frozen BK214.out 0;have hfz41_1:=blk_frozen BK214.out 1;have hfz41_2:=blk_frozen BK214.out 2;have hfz41_3:=blk_frozen BK214.out 3;have hfz41_4:=blk_frozen BK214.out 4))
  refine bodyPost_ret (results_cell_row rfl _ _ gb214 26 #[.slice none 0 0,.slice none 0 0,.slice none 0 0,.slice none 0 0,.slice none 0 0] (0,0) _ rfl (by (with_reducible repeat (first|refine blk_drewN ?_ _|refine blk_drew ?_|refine blk_alloc ?_ _));refine blk_put (cs:=#[.slice none 0 0,.slice none 0 0,.slice none 0 0,.slice none 0 0,.slice none 0 0]) ?_ 4 _ rfl;(with_reducible repeat (first|refine blk_drewN ?_ _|refine blk_drew ?_|refine blk_alloc ?_ _));refine blk_put (cs:=#[.slice none 0 0,.slice none 0 0,.slice none 0 0,.slice none 0 0,.slice none 0 0]) ?_ 3 _ rfl;(with_reducible repeat (first|refine blk_drewN ?_ _|refine blk_drew ?_|refine blk_alloc ?_ _));refine blk_put (cs:=#[.slice none 0 0,.slice none 0 0,.slice none 0 0,.slice none 0 0,.slice none 0 0]) ?_ 2 _ rfl;(with_reducible repeat (first|refine blk_drewN ?_ _|refine blk_drew ?_|refine blk_alloc ?_ _));refine blk_put (cs:=#[.slice none 0 0,.slice none 0 0,.slice none 0 0,.slice none 0 0,.slice none 0 0]) ?_ 1 _ rfl;(with_reducible repeat (first|refine blk_drewN ?_ _|refine blk_drew ?_|refine blk_alloc ?_ _));refine blk_put (cs:=#[.slice none 0 0,.slice none 0 0,.slice none 0 0,.slice none 0 0,.slice none 0 0]) ?_ 0 _ rfl;(with_reducible repeat (first|refine blk_drewN ?_ _|refine blk_drew ?_|refine blk_alloc ?_ _));exact BK214.out) Try.underlying26 rfl (by kernel_rfl)) rfl ?_
  exact ⟨_,_,_,_,_,by first|rfl|(simp [errW_none,errW_some] <;> rfl)|(simp [*,errW_none,errW_some] <;> rfl),by first|exact Kd.R_nil _ _ _ _ _|exact Kd.N_nil _ _ _ _ _|exact Kd.V_nil _ _ _ _ _|exact Kd.Q_nil _ _ _ _ _|exact Kd.S_nil _ _ _ _ _,by first|exact Kd.R_nil _ _ _ _ _|exact Kd.N_nil _ _ _ _ _|exact Kd.V_nil _ _ _ _ _|exact Kd.Q_nil _ _ _ _ _|exact Kd.S_nil _ _ _ _ _,by first|exact Kd.R_nil _ _ _ _ _|exact Kd.N_nil _ _ _ _ _|exact Kd.V_nil _ _ _ _ _|exact Kd.Q_nil _ _ _ _ _|exact Kd.S_nil _ _ _ _ _,by first|exact Kd.R_nil _ _ _ _ _|exact Kd.N_nil _ _ _ _ _|exact Kd.V_nil _ _ _ _ _|exact Kd.Q_nil _ _ _ _ _|exact Kd.S_nil _ _ _ _ _,by first|exact Kd.R_nil _ _ _ _ _|exact Kd.N_nil _ _ _ _ _|exact Kd.V_nil _ _ _ _ _|exact Kd.Q_nil _ _ _ _ _|exact Kd.S_nil _ _ _ _ _,by repeat (first|(with_reducible first|exact HB.out|apply below_alloc|apply pw_below_drewN|apply below_drew1|refine below_set ?_ GE213.out|refine below_set ?_ GE214.out)|exact HB.out)⟩
def impl_StoreFall.f (k:Nat) (l0_0:List ByteArray) (l0_1:List ByteArray) (l0_2:List Int) (l0_3:List Int) (l0_4:List Int):Option (List ByteArray × List ByteArray × List Int × List Int × List Int):=(impl_StoreOk.f k l0_0 l0_1 l0_2 l0_3 l0_4).bind fun t748=>(if t748=true then ((impl_again.f l0_0 l0_1 l0_2 l0_3 l0_4).bind fun bt749=>((slices_Clone_string_string.f bt749.2.1).bind fun t764=>((slices_Clone_int_int.f bt749.2.2.2.1).bind fun t767=>(some (t764,bt749.2.1,t767,bt749.2.2.2.1,bt749.2.2.2.2))))) else (some (([]:List ByteArray),([]:List ByteArray),([]:List Int),([]:List Int),([]:List Int))))
def impl_StoreFall.T4:Bool × List (List Nat × List Nat):=(true,[([],[]),([0],[0]),([1],[1]),([],[]),([3],[3]),([4,2],[4]),([0,1,2,3,4],[]),([6,2,5,0,1,2,3,4],[2,6]),([0,1,2,3,4,5,6,7],[]),([8,5,7,0,1,2,3,4,5,6,7],[5,8])])
def impl_StoreFall.B4:List Nat:=[0,1,3,0,8,31,31,127,255,511]
theorem impl_StoreFall.tab4:rtab .any (opsOf Try.f20 4)=impl_StoreFall.T4:=by kernel_rfl
theorem impl_StoreFall.bits4:waitsOk impl_StoreFall.T4.2 impl_StoreFall.B4=true:=by kernel_rfl
theorem impl_StoreFall.calls (k:Nat) (A0_0:Option Addr) (c0_0:Nat) (l0_0:List ByteArray) (A0_1:Option Addr) (c0_1:Nat) (l0_1:List ByteArray) (A0_2:Option Addr) (c0_2:Nat) (l0_2:List Int) (A0_3:Option Addr) (c0_3:Nat) (l0_3:List Int) (A0_4:Option Addr) (c0_4:Nat) (l0_4:List Int) (r1:List ByteArray) (r2:List ByteArray) (r3:List Int) (r4:List Int) (r5:List Int) (w:World) (hr0_0:Kd.C Kd.string w A0_0 l0_0.length l0_0) (hc0_0:l0_0.length≤c0_0) (hr0_1:Kd.C Kd.string w A0_1 l0_1.length l0_1) (hc0_1:l0_1.length≤c0_1) (hr0_2:Kd.C (Kd.int .i64) w A0_2 l0_2.length l0_2) (hc0_2:l0_2.length≤c0_2) (hr0_3:Kd.C (Kd.int .i64) w A0_3 l0_3.length l0_3) (hc0_3:l0_3.length≤c0_3) (hr0_4:Kd.C (Kd.int .i64) w A0_4 l0_4.length l0_4) (hc0_4:l0_4.length≤c0_4) (h:impl_StoreFall.f k l0_0 l0_1 l0_2 l0_3 l0_4=some (r1,r2,r3,r4,r5)) :
  Calls Try.prog 20 #[.agg #[.slice A0_0 l0_0.length c0_0,.slice A0_1 l0_1.length c0_1,.slice A0_2 l0_2.length c0_2,.slice A0_3 l0_3.length c0_3,.slice A0_4 l0_4.length c0_4]] w fun e w'=>∃ v0_ v1_ v2_ v3_ v4_:Value,e = .returned (.agg #[v0_,v1_,v2_,v3_,v4_])∧Kd.R Kd.string 9 w' w.heap.size (fun k_=>some k_ ≠ (v1_:Value).ownBlock) v0_ r1∧Kd.R Kd.string 9 w' w.heap.size (fun k_=>some k_ ≠ (v0_:Value).ownBlock) v1_ r2∧Kd.R (Kd.int .i64) 3 w' w.heap.size (fun k_=>some k_ ≠ (v3_:Value).ownBlock∧some k_ ≠ (v4_:Value).ownBlock) v2_ r3∧Kd.R (Kd.int .i64) 3 w' w.heap.size (fun k_=>some k_ ≠ (v2_:Value).ownBlock∧some k_ ≠ (v4_:Value).ownBlock) v3_ r4∧Kd.R (Kd.int .i64) 3 w' w.heap.size (fun k_=>some k_ ≠ (v2_:Value).ownBlock∧some k_ ≠ (v3_:Value).ownBlock) v4_ r5∧Below w.heap.size w w':=by
 have hu26:=Try.underlying26
 have HR0_0:=Ak hr0_0
 have HC0_0:=Ak hc0_0
 clear hr0_0 hc0_0
 have HR0_1:=Ak hr0_1
 have HC0_1:=Ak hc0_1
 clear hr0_1 hc0_1
 have HR0_2:=Ak hr0_2
 have HC0_2:=Ak hc0_2
 clear hr0_2 hc0_2
 have HR0_3:=Ak hr0_3
 have HC0_3:=Ak hc0_3
 clear hr0_3 hc0_3
 have HR0_4:=Ak hr0_4
 have HC0_4:=Ak hc0_4
 clear hr0_4 hc0_4
 have HB:=Ak (Below.refl w.heap.size w)
 have H:((impl_StoreOk.f k l0_0 l0_1 l0_2 l0_3 l0_4).bind fun t748=>(if t748=true then ((impl_again.f l0_0 l0_1 l0_2 l0_3 l0_4).bind fun bt749=>((slices_Clone_string_string.f bt749.2.1).bind fun t764=>((slices_Clone_int_int.f bt749.2.2.2.1).bind fun t767=>(some (t764,bt749.2.1,t767,bt749.2.2.2.1,bt749.2.2.2.2))))) else (some (([]:List ByteArray),([]:List ByteArray),([]:List Int),([]:List Int),([]:List Int)))))=some (r1,r2,r3,r4,r5):=h
 clear h
 replace H:=Option.bind_eq_some_iff.mp H
 obtain ⟨t748,A20,H⟩:=H
 replace H:(if t748=true then ((impl_again.f l0_0 l0_1 l0_2 l0_3 l0_4).bind fun bt749=>((slices_Clone_string_string.f bt749.2.1).bind fun t764=>((slices_Clone_int_int.f bt749.2.2.2.1).bind fun t767=>(some (t764,bt749.2.1,t767,bt749.2.2.2.1,bt749.2.2.2.2))))) else (some (([]:List ByteArray),([]:List ByteArray),([]:List Int),([]:List Int),([]:List Int))))=some (r1,r2,r3,r4,r5):=H
 have A2:=Ak A20
 clear A20
 by_cases c3:t748=true
 ·subst c3
  have H1:((impl_again.f l0_0 l0_1 l0_2 l0_3 l0_4).bind fun bt749=>((slices_Clone_string_string.f bt749.2.1).bind fun t764=>((slices_Clone_int_int.f bt749.2.2.2.1).bind fun t767=>(some (t764,bt749.2.1,t767,bt749.2.2.2.1,bt749.2.2.2.2)))))=some (r1,r2,r3,r4,r5):=by rw [if_pos rfl] at H;exact H
  clear H
  have H:=H1
  clear H1
  replace H:=Option.bind_eq_some_iff.mp H
  obtain ⟨⟨t749,t752,t755,t758,t761⟩,A40,H⟩:=H
  replace H:((slices_Clone_string_string.f t752).bind fun t764=>((slices_Clone_int_int.f t758).bind fun t767=>(some (t764,t752,t767,t758,t761))))=some (r1,r2,r3,r4,r5):=H
  have A4:=Ak A40
  clear A40
  replace H:=Option.bind_eq_some_iff.mp H
  obtain ⟨t764,A50,H⟩:=H
  replace H:((slices_Clone_int_int.f t758).bind fun t767=>(some (t764,t752,t767,t758,t761)))=some (r1,r2,r3,r4,r5):=H
  have A5:=Ak A50
  clear A50
  replace H:=Option.bind_eq_some_iff.mp H
  obtain ⟨t767,A60,H⟩:=H
  replace H:(some (t764,t752,t767,t758,t761))=some (r1,r2,r3,r4,r5):=H
  have A6:=Ak A60
  clear A60
  simp only [Option.some.injEq,Prod.mk.injEq] at H
  obtain ⟨rfl,rfl,rfl,rfl,rfl⟩:=H
  go_enter Try.func20,Try.ntmps20
  try go_wp2_with (first|((with_reducible refine gate_dst (N:=1) rfl ?_);refine box_event ?hg (N:=1) ?hd (cs:=#[.slice A0_0 l0_0.length c0_0,.slice A0_1 l0_1.length c0_1,.slice A0_2 l0_2.length c0_2,.slice A0_3 l0_3.length c0_3,.slice A0_4 l0_4.length c0_4]) (t:=26) ?hr ?_;(case hd=>rfl);(case hg=>rfl);(case hr=>first|(go_simp;done)|(go_simp;rfl));intro gb746 hg w7 hbox hb;have n0_:=Ak (below_step (by repeat (first|(with_reducible first|exact HB.out|apply below_alloc|apply pw_below_drewN|apply below_drew1)|exact HB.out)) hb);have n1_:=Ak (hbox);have n2_:=Ak ((by rw [hg];exact (below_size (by repeat (first|(with_reducible first|exact HB.out|apply below_alloc|apply pw_below_drewN|apply below_drew1)|exact HB.out))):w.heap.size≤gb746));have n3_:=Ak ((by rw [hg];exact (below_size (by repeat (first|(with_reducible first|exact HB.out|apply below_alloc|apply pw_below_drewN|apply below_drew1)|exact HB.out))):w.heap.size≤gb746));clear HB;have HB:=n0_;have BK746:=n1_;have GW746:=n2_;have GE746:=n3_;clear n0_ n1_ n2_ n3_;clear hb hbox hg)|((with_reducible refine gate_dst (N:=2) rfl ?_);refine box_event ?hg (N:=2) ?hd (cs:=#[.slice none 0 0,.slice none 0 0,.slice none 0 0,.slice none 0 0,.slice none 0 0]) (t:=26) ?hr ?_;(case hd=>rfl);(case hg=>rfl);(case hr=>first|(go_simp;done)|(go_simp;rfl));intro gb747 hg w8 hbox hb;have n0_:=Ak (blk_below (g:=gb746) (o:=.cells #[.slice A0_0 l0_0.length c0_0,.slice A0_1 l0_1.length c0_1,.slice A0_2 l0_2.length c0_2,.slice A0_3 l0_3.length c0_3,.slice A0_4 l0_4.length c0_4] 26 (0,0)) (by (with_reducible repeat (first|refine blk_drewN ?_ _|refine blk_drew ?_|refine blk_alloc ?_ _));exact BK746.out) hb);have n1_:=Ak (below_step (by repeat (first|(with_reducible first|exact HB.out|apply below_alloc|apply pw_below_drewN|apply below_drew1|refine below_set ?_ GE746.out)|exact HB.out)) hb);have n2_:=Ak (hbox);have n3_:=Ak ((by rw [hg];exact (below_size (by repeat (first|(with_reducible first|exact HB.out|apply below_alloc|apply pw_below_drewN|apply below_drew1|refine below_set ?_ GE746.out)|exact HB.out))):w.heap.size≤gb747));have n4_:=Ak ((by rw [hg];exact (below_size (by repeat (first|(with_reducible first|exact HB.out|apply below_alloc|apply pw_below_drewN|apply below_drew1|refine below_set ?_ GE746.out)|exact HB.out))):w.heap.size≤gb747));have n5_:=Ak ((by rw [hg];exact Nat.ne_of_lt (blk_lt (g:=gb746) (o:=.cells #[.slice A0_0 l0_0.length c0_0,.slice A0_1 l0_1.length c0_1,.slice A0_2 l0_2.length c0_2,.slice A0_3 l0_3.length c0_3,.slice A0_4 l0_4.length c0_4] 26 (0,0)) (by (with_reducible repeat (first|refine blk_drewN ?_ _|refine blk_drew ?_|refine blk_alloc ?_ _));exact BK746.out)):gb746 ≠ gb747));have n6_:=Ak ((by rw [hg];exact Nat.ne_of_gt (blk_lt (g:=gb746) (o:=.cells #[.slice A0_0 l0_0.length c0_0,.slice A0_1 l0_1.length c0_1,.slice A0_2 l0_2.length c0_2,.slice A0_3 l0_3.length c0_3,.slice A0_4 l0_4.length c0_4] 26 (0,0)) (by (with_reducible repeat (first|refine blk_drewN ?_ _|refine blk_drew ?_|refine blk_alloc ?_ _));exact BK746.out)):gb747 ≠ gb746));clear BK746;clear HB;have BK746:=n0_;have HB:=n1_;have BK747:=n2_;have GW747:=n3_;have GE747:=n4_;have NB746_747:=n5_;have NB747_746:=n6_;clear n0_ n1_ n2_ n3_ n4_ n5_ n6_;clear hb hbox hg;have hnb9:=NB746_747.out;have hnc9:=NB747_746.out;have hcz10_0:w8.cell? ⟨gb746,0,none⟩=some (.slice A0_0 l0_0.length c0_0):=(blk_cell BK746.out 0).trans rfl;have hcz10_1:w8.cell? ⟨gb746,1,none⟩=some (.slice A0_1 l0_1.length c0_1):=(blk_cell BK746.out 1).trans rfl;have hcz10_2:w8.cell? ⟨gb746,2,none⟩=some (.slice A0_2 l0_2.length c0_2):=(blk_cell BK746.out 2).trans rfl;have hcz10_3:w8.cell? ⟨gb746,3,none⟩=some (.slice A0_3 l0_3.length c0_3):=(blk_cell BK746.out 3).trans rfl;have hcz10_4:w8.cell? ⟨gb746,4,none⟩=some (.slice A0_4 l0_4.length c0_4):=(blk_cell BK746.out 4).trans rfl;have hfz10_0:=blk_frozen BK746.out 0;have hfz10_1:=blk_frozen BK746.out 1;have hfz10_2:=blk_frozen BK746.out 2;have hfz10_3:=blk_frozen BK746.out 3;have hfz10_4:=blk_frozen BK746.out 4)|((with_reducible refine gate_callee (f:=23) rfl ?_);refine goesL_ (some 4) rfl rfl Try.func23 (by kernel_rfl) rfl #[.agg #[.slice A0_0 l0_0.length c0_0,.slice A0_1 l0_1.length c0_1,.slice A0_2 l0_2.length c0_2,.slice A0_3 l0_3.length c0_3,.slice A0_4 l0_4.length c0_4]] rfl (by (try simp only [List.map_toArray,List.map_cons,List.map_nil]);first|done|rfl|(simp only [List.length_drop,List.length_take];rfl)) ?_;(with_reducible refine (impl_StoreOk.calls k _ _ l0_0 _ _ l0_1 _ _ l0_2 _ _ l0_3 _ _ l0_4 true _ ?side1 ?side2 ?side3 ?side4 ?side5 ?side6 ?side7 ?side8 ?side9 ?side10 A2.out).mono ?_);(case side1=>repeat (first|exact (Kd.C_below HR0_0.out HB.out)|(with_reducible refine Kd.C_alloc ?_ _)|(with_reducible refine Kd.C_drewN ?_ _)|(with_reducible refine Kd.C_drew ?_)));(case side2=>exact HC0_0.out);(case side3=>repeat (first|exact (Kd.C_below HR0_1.out HB.out)|(with_reducible refine Kd.C_alloc ?_ _)|(with_reducible refine Kd.C_drewN ?_ _)|(with_reducible refine Kd.C_drew ?_)));(case side4=>exact HC0_1.out);(case side5=>repeat (first|exact (Kd.C_below HR0_2.out HB.out)|(with_reducible refine Kd.C_alloc ?_ _)|(with_reducible refine Kd.C_drewN ?_ _)|(with_reducible refine Kd.C_drew ?_)));(case side6=>exact HC0_2.out);(case side7=>repeat (first|exact (Kd.C_below HR0_3.out HB.out)|(with_reducible refine Kd.C_alloc ?_ _)|(with_reducible refine Kd.C_drewN ?_ _)|(with_reducible refine Kd.C_drew ?_)));(case side8=>exact HC0_3.out);(case side9=>repeat (first|exact (Kd.C_below HR0_4.out HB.out)|(with_reducible refine Kd.C_alloc ?_ _)|(with_reducible refine Kd.C_drewN ?_ _)|(with_reducible refine Kd.C_drew ?_)));(case side10=>exact HC0_4.out);rintro e w11 ⟨rfl,hb⟩;refine ⟨_,rfl,?_⟩;have n0_:=Ak (blk_below (g:=gb746) (o:=.cells #[.slice A0_0 l0_0.length c0_0,.slice A0_1 l0_1.length c0_1,.slice A0_2 l0_2.length c0_2,.slice A0_3 l0_3.length c0_3,.slice A0_4 l0_4.length c0_4] 26 (0,0)) (by (with_reducible repeat (first|refine blk_drewN ?_ _|refine blk_drew ?_|refine blk_alloc ?_ _));exact BK746.out) hb);have n1_:=Ak (blk_below (g:=gb747) (o:=.cells #[.slice none 0 0,.slice none 0 0,.slice none 0 0,.slice none 0 0,.slice none 0 0] 26 (0,0)) (by (with_reducible repeat (first|refine blk_drewN ?_ _|refine blk_drew ?_|refine blk_alloc ?_ _));exact BK747.out) hb);have n2_:=Ak (below_step (by repeat (first|(with_reducible first|exact HB.out|apply below_alloc|apply pw_below_drewN|apply below_drew1|refine below_set ?_ GE746.out|refine below_set ?_ GE747.out)|exact HB.out)) hb);clear BK746;clear BK747;clear HB;have BK746:=n0_;have BK747:=n1_;have HB:=n2_;clear n0_ n1_ n2_;(try clear hb);(try clear hb2);(try clear hk);(try clear hi);have hcz12_0:w11.cell? ⟨gb746,0,none⟩=some (.slice A0_0 l0_0.length c0_0):=(blk_cell BK746.out 0).trans rfl;have hcz12_1:w11.cell? ⟨gb746,1,none⟩=some (.slice A0_1 l0_1.length c0_1):=(blk_cell BK746.out 1).trans rfl;have hcz12_2:w11.cell? ⟨gb746,2,none⟩=some (.slice A0_2 l0_2.length c0_2):=(blk_cell BK746.out 2).trans rfl;have hcz12_3:w11.cell? ⟨gb746,3,none⟩=some (.slice A0_3 l0_3.length c0_3):=(blk_cell BK746.out 3).trans rfl;have hcz12_4:w11.cell? ⟨gb746,4,none⟩=some (.slice A0_4 l0_4.length c0_4):=(blk_cell BK746.out 4).trans rfl;have hfz12_0:=blk_frozen BK746.out 0;have hfz12_1:=blk_frozen BK746.out 1;have hfz12_2:=blk_frozen BK746.out 2;have hfz12_3:=blk_frozen BK746.out 3;have hfz12_4:=blk_frozen BK746.out 4)|((with_reducible refine gate_callee (f:=49) rfl ?_);refine goesL_ (some 8) rfl rfl Try.func49 (by kernel_rfl) rfl #[.agg #[.slice A0_0 l0_0.length c0_0,.slice A0_1 l0_1.length c0_1,.slice A0_2 l0_2.length c0_2,.slice A0_3 l0_3.length c0_3,.slice A0_4 l0_4.length c0_4]] rfl (by (try simp only [List.map_toArray,List.map_cons,List.map_nil]);first|done|rfl|(simp only [List.length_drop,List.length_take];rfl)) ?_;(with_reducible refine (impl_again.calls _ _ l0_0 _ _ l0_1 _ _ l0_2 _ _ l0_3 _ _ l0_4 t749 t752 t755 t758 t761 _ ?side1 ?side2 ?side3 ?side4 ?side5 ?side6 ?side7 ?side8 ?side9 ?side10 A4.out).mono ?_);(case side1=>repeat (first|exact (Kd.C_below HR0_0.out HB.out)|(with_reducible refine Kd.C_alloc ?_ _)|(with_reducible refine Kd.C_drewN ?_ _)|(with_reducible refine Kd.C_drew ?_)));(case side2=>exact HC0_0.out);(case side3=>repeat (first|exact (Kd.C_below HR0_1.out HB.out)|(with_reducible refine Kd.C_alloc ?_ _)|(with_reducible refine Kd.C_drewN ?_ _)|(with_reducible refine Kd.C_drew ?_)));(case side4=>exact HC0_1.out);(case side5=>repeat (first|exact (Kd.C_below HR0_2.out HB.out)|(with_reducible refine Kd.C_alloc ?_ _)|(with_reducible refine Kd.C_drewN ?_ _)|(with_reducible refine Kd.C_drew ?_)));(case side6=>exact HC0_2.out);(case side7=>repeat (first|exact (Kd.C_below HR0_3.out HB.out)|(with_reducible refine Kd.C_alloc ?_ _)|(with_reducible refine Kd.C_drewN ?_ _)|(with_reducible refine Kd.C_drew ?_)));(case side8=>exact HC0_3.out);(case side9=>repeat (first|exact (Kd.C_below HR0_4.out HB.out)|(with_reducible refine Kd.C_alloc ?_ _)|(with_reducible refine Kd.C_drewN ?_ _)|(with_reducible refine Kd.C_drew ?_)));(case side10=>exact HC0_4.out);rintro e w13 ⟨v750,v753,v756,v759,v762,rfl,ho0,ho1,ho2,ho3,ho4,hb⟩;refine ⟨_,rfl,?_⟩;have n0_:=Ak (Kd.R_lower ho0 (below_size (by repeat (first|(with_reducible first|exact HB.out|apply below_alloc|apply pw_below_drewN|apply below_drew1|refine below_set ?_ GE746.out|refine below_set ?_ GE747.out)|exact HB.out))));have n1_:=Ak (Kd.R_lower ho1 (below_size (by repeat (first|(with_reducible first|exact HB.out|apply below_alloc|apply pw_below_drewN|apply below_drew1|refine below_set ?_ GE746.out|refine below_set ?_ GE747.out)|exact HB.out))));have n2_:=Ak (Kd.R_lower ho2 (below_size (by repeat (first|(with_reducible first|exact HB.out|apply below_alloc|apply pw_below_drewN|apply below_drew1|refine below_set ?_ GE746.out|refine below_set ?_ GE747.out)|exact HB.out))));have n3_:=Ak (Kd.R_lower ho3 (below_size (by repeat (first|(with_reducible first|exact HB.out|apply below_alloc|apply pw_below_drewN|apply below_drew1|refine below_set ?_ GE746.out|refine below_set ?_ GE747.out)|exact HB.out))));have n4_:=Ak (Kd.R_lower ho4 (below_size (by repeat (first|(with_reducible first|exact HB.out|apply below_alloc|apply pw_below_drewN|apply below_drew1|refine below_set ?_ GE746.out|refine below_set ?_ GE747.out)|exact HB.out))));have n5_:=Ak (blk_below (g:=gb746) (o:=.cells #[.slice A0_0 l0_0.length c0_0,.slice A0_1 l0_1.length c0_1,.slice A0_2 l0_2.length c0_2,.slice A0_3 l0_3.length c0_3,.slice A0_4 l0_4.length c0_4] 26 (0,0)) (by (with_reducible repeat (first|refine blk_drewN ?_ _|refine blk_drew ?_|refine blk_alloc ?_ _));exact BK746.out) hb);have n6_:=Ak (blk_below (g:=gb747) (o:=.cells #[.slice none 0 0,.slice none 0 0,.slice none 0 0,.slice none 0 0,.slice none 0 0] 26 (0,0)) (by (with_reducible repeat (first|refine blk_drewN ?_ _|refine blk_drew ?_|refine blk_alloc ?_ _));exact BK747.out) hb);have n7_:=Ak (below_step (by repeat (first|(with_reducible first|exact HB.out|apply below_alloc|apply pw_below_drewN|apply below_drew1|refine below_set ?_ GE746.out|refine below_set ?_ GE747.out)|exact HB.out)) hb);clear BK746;clear BK747;clear HB;have HO751:=n0_;have HO754:=n1_;have HO757:=n2_;have HO760:=n3_;have HO763:=n4_;have BK746:=n5_;have BK747:=n6_;have HB:=n7_;clear n0_ n1_ n2_ n3_ n4_ n5_ n6_ n7_;(try clear hb);(try clear hb2);(try clear hk);(try clear hi);(try clear ho0);(try clear ho1);(try clear ho2);(try clear ho3);(try clear ho4);obtain ⟨Ao14,co14,eo14⟩:=Kd.R_slice HO751.out;subst eo14;have hcz15_0:w13.cell? ⟨gb746,0,none⟩=some (.slice A0_0 l0_0.length c0_0):=(blk_cell BK746.out 0).trans rfl;have hcz15_1:w13.cell? ⟨gb746,1,none⟩=some (.slice A0_1 l0_1.length c0_1):=(blk_cell BK746.out 1).trans rfl;have hcz15_2:w13.cell? ⟨gb746,2,none⟩=some (.slice A0_2 l0_2.length c0_2):=(blk_cell BK746.out 2).trans rfl;have hcz15_3:w13.cell? ⟨gb746,3,none⟩=some (.slice A0_3 l0_3.length c0_3):=(blk_cell BK746.out 3).trans rfl;have hcz15_4:w13.cell? ⟨gb746,4,none⟩=some (.slice A0_4 l0_4.length c0_4):=(blk_cell BK746.out 4).trans rfl;have hfz15_0:=blk_frozen BK746.out 0;have hfz15_1:=blk_frozen BK746.out 1;have hfz15_2:=blk_frozen BK746.out 2;have hfz15_3:=blk_frozen BK746.out 3;have hfz15_4:=blk_frozen BK746.out 4;obtain ⟨Ao16,co16,eo16⟩:=Kd.R_slice HO754.out;subst eo16;obtain ⟨Ao17,co17,eo17⟩:=Kd.R_slice HO757.out;subst eo17;obtain ⟨Ao18,co18,eo18⟩:=Kd.R_slice HO760.out;subst eo18;obtain ⟨Ao19,co19,eo19⟩:=Kd.R_slice HO763.out;subst eo19))
  have n0_:Aside0 (Kd.R Kd.string 9 (((((w13.setCell ⟨gb746,0,none⟩ (.slice Ao14 t749.length co14)).setCell ⟨gb746,1,none⟩ (.slice Ao16 t752.length co16)).setCell ⟨gb746,2,none⟩ (.slice Ao17 t755.length co17)).setCell ⟨gb746,3,none⟩ (.slice Ao18 t758.length co18)).setCell ⟨gb746,4,none⟩ (.slice Ao19 t761.length co19)) w.heap.size (fun k_=>some k_ ≠ (.slice Ao16 t752.length co16:Value).ownBlock) (.slice Ao14 t749.length co14) t749):=⟨by (with_reducible repeat (first|apply Kd.R_alloc|apply Kd.R_drewN|apply Kd.R_drew));exact Kd.R_mono (Kd.R_far (p:=⟨gb746,4,none⟩) (Kd.R_far (p:=⟨gb746,3,none⟩) (Kd.R_far (p:=⟨gb746,2,none⟩) (Kd.R_far (p:=⟨gb746,1,none⟩) (Kd.R_far (p:=⟨gb746,0,none⟩) (Kd.R_types HO751.out BK746.out (by decide)) (fun _ hk=>hk.2) (.slice Ao14 t749.length co14)) (fun _ hk=>hk.2) (.slice Ao16 t752.length co16)) (fun _ hk=>hk.2) (.slice Ao17 t755.length co17)) (fun _ hk=>hk.2) (.slice Ao18 t758.length co18)) (fun _ hk=>hk.2) (.slice Ao19 t761.length co19)) (fun _ hk=>hk.1)⟩
  have n1_:Aside0 (Kd.R Kd.string 9 (((((w13.setCell ⟨gb746,0,none⟩ (.slice Ao14 t749.length co14)).setCell ⟨gb746,1,none⟩ (.slice Ao16 t752.length co16)).setCell ⟨gb746,2,none⟩ (.slice Ao17 t755.length co17)).setCell ⟨gb746,3,none⟩ (.slice Ao18 t758.length co18)).setCell ⟨gb746,4,none⟩ (.slice Ao19 t761.length co19)) w.heap.size (fun k_=>some k_ ≠ (.slice Ao14 t749.length co14:Value).ownBlock) (.slice Ao16 t752.length co16) t752):=⟨by (with_reducible repeat (first|apply Kd.R_alloc|apply Kd.R_drewN|apply Kd.R_drew));exact Kd.R_mono (Kd.R_far (p:=⟨gb746,4,none⟩) (Kd.R_far (p:=⟨gb746,3,none⟩) (Kd.R_far (p:=⟨gb746,2,none⟩) (Kd.R_far (p:=⟨gb746,1,none⟩) (Kd.R_far (p:=⟨gb746,0,none⟩) (Kd.R_types HO754.out BK746.out (by decide)) (fun _ hk=>hk.2) (.slice Ao14 t749.length co14)) (fun _ hk=>hk.2) (.slice Ao16 t752.length co16)) (fun _ hk=>hk.2) (.slice Ao17 t755.length co17)) (fun _ hk=>hk.2) (.slice Ao18 t758.length co18)) (fun _ hk=>hk.2) (.slice Ao19 t761.length co19)) (fun _ hk=>hk.1)⟩
  have n2_:Aside0 (Kd.R (Kd.int .i64) 3 (((((w13.setCell ⟨gb746,0,none⟩ (.slice Ao14 t749.length co14)).setCell ⟨gb746,1,none⟩ (.slice Ao16 t752.length co16)).setCell ⟨gb746,2,none⟩ (.slice Ao17 t755.length co17)).setCell ⟨gb746,3,none⟩ (.slice Ao18 t758.length co18)).setCell ⟨gb746,4,none⟩ (.slice Ao19 t761.length co19)) w.heap.size (fun k_=>some k_ ≠ (.slice Ao18 t758.length co18:Value).ownBlock∧some k_ ≠ (.slice Ao19 t761.length co19:Value).ownBlock) (.slice Ao17 t755.length co17) t755):=⟨by (with_reducible repeat (first|apply Kd.R_alloc|apply Kd.R_drewN|apply Kd.R_drew));exact Kd.R_mono (Kd.R_far (p:=⟨gb746,4,none⟩) (Kd.R_far (p:=⟨gb746,3,none⟩) (Kd.R_far (p:=⟨gb746,2,none⟩) (Kd.R_far (p:=⟨gb746,1,none⟩) (Kd.R_far (p:=⟨gb746,0,none⟩) (Kd.R_types HO757.out BK746.out (by decide)) (fun _ hk=>hk.2) (.slice Ao14 t749.length co14)) (fun _ hk=>hk.2) (.slice Ao16 t752.length co16)) (fun _ hk=>hk.2) (.slice Ao17 t755.length co17)) (fun _ hk=>hk.2) (.slice Ao18 t758.length co18)) (fun _ hk=>hk.2) (.slice Ao19 t761.length co19)) (fun _ hk=>⟨hk.1.1,hk.1.2⟩)⟩
  have n3_:Aside0 (Kd.R (Kd.int .i64) 3 (((((w13.setCell ⟨gb746,0,none⟩ (.slice Ao14 t749.length co14)).setCell ⟨gb746,1,none⟩ (.slice Ao16 t752.length co16)).setCell ⟨gb746,2,none⟩ (.slice Ao17 t755.length co17)).setCell ⟨gb746,3,none⟩ (.slice Ao18 t758.length co18)).setCell ⟨gb746,4,none⟩ (.slice Ao19 t761.length co19)) w.heap.size (fun k_=>some k_ ≠ (.slice Ao17 t755.length co17:Value).ownBlock∧some k_ ≠ (.slice Ao19 t761.length co19:Value).ownBlock) (.slice Ao18 t758.length co18) t758):=⟨by (with_reducible repeat (first|apply Kd.R_alloc|apply Kd.R_drewN|apply Kd.R_drew));exact Kd.R_mono (Kd.R_far (p:=⟨gb746,4,none⟩) (Kd.R_far (p:=⟨gb746,3,none⟩) (Kd.R_far (p:=⟨gb746,2,none⟩) (Kd.R_far (p:=⟨gb746,1,none⟩) (Kd.R_far (p:=⟨gb746,0,none⟩) (Kd.R_types HO760.out BK746.out (by decide)) (fun _ hk=>hk.2) (.slice Ao14 t749.length co14)) (fun _ hk=>hk.2) (.slice Ao16 t752.length co16)) (fun _ hk=>hk.2) (.slice Ao17 t755.length co17)) (fun _ hk=>hk.2) (.slice Ao18 t758.length co18)) (fun _ hk=>hk.2) (.slice Ao19 t761.length co19)) (fun _ hk=>⟨hk.1.1,hk.1.2⟩)⟩
  have n4_:Aside0 (Kd.R (Kd.int .i64) 3 (((((w13.setCell ⟨gb746,0,none⟩ (.slice Ao14 t749.length co14)).setCell ⟨gb746,1,none⟩ (.slice Ao16 t752.length co16)).setCell ⟨gb746,2,none⟩ (.slice Ao17 t755.length co17)).setCell ⟨gb746,3,none⟩ (.slice Ao18 t758.length co18)).setCell ⟨gb746,4,none⟩ (.slice Ao19 t761.length co19)) w.heap.size (fun k_=>some k_ ≠ (.slice Ao17 t755.length co17:Value).ownBlock∧some k_ ≠ (.slice Ao18 t758.length co18:Value).ownBlock) (.slice Ao19 t761.length co19) t761):=⟨by (with_reducible repeat (first|apply Kd.R_alloc|apply Kd.R_drewN|apply Kd.R_drew));exact Kd.R_mono (Kd.R_far (p:=⟨gb746,4,none⟩) (Kd.R_far (p:=⟨gb746,3,none⟩) (Kd.R_far (p:=⟨gb746,2,none⟩) (Kd.R_far (p:=⟨gb746,1,none⟩) (Kd.R_far (p:=⟨gb746,0,none⟩) (Kd.R_types HO763.out BK746.out (by decide)) (fun _ hk=>hk.2) (.slice Ao14 t749.length co14)) (fun _ hk=>hk.2) (.slice Ao16 t752.length co16)) (fun _ hk=>hk.2) (.slice Ao17 t755.length co17)) (fun _ hk=>hk.2) (.slice Ao18 t758.length co18)) (fun _ hk=>hk.2) (.slice Ao19 t761.length co19)) (fun _ hk=>⟨hk.1.1,hk.1.2⟩)⟩
  have n5_:Aside0 ((((((w13.setCell ⟨gb746,0,none⟩ (.slice Ao14 t749.length co14)).setCell ⟨gb746,1,none⟩ (.slice Ao16 t752.length co16)).setCell ⟨gb746,2,none⟩ (.slice Ao17 t755.length co17)).setCell ⟨gb746,3,none⟩ (.slice Ao18 t758.length co18)).setCell ⟨gb746,4,none⟩ (.slice Ao19 t761.length co19)).heap[gb746]?=some (.cells #[.slice Ao14 t749.length co14,.slice Ao16 t752.length co16,.slice Ao17 t755.length co17,.slice Ao18 t758.length co18,.slice Ao19 t761.length co19] 26 (0,0))):=⟨by (with_reducible repeat (first|refine blk_drewN ?_ _|refine blk_drew ?_|refine blk_alloc ?_ _));refine blk_put (cs:=#[.slice Ao14 t749.length co14,.slice Ao16 t752.length co16,.slice Ao17 t755.length co17,.slice Ao18 t758.length co18,.slice A0_4 l0_4.length c0_4]) ?_ 4 _ rfl;(with_reducible repeat (first|refine blk_drewN ?_ _|refine blk_drew ?_|refine blk_alloc ?_ _));refine blk_put (cs:=#[.slice Ao14 t749.length co14,.slice Ao16 t752.length co16,.slice Ao17 t755.length co17,.slice A0_3 l0_3.length c0_3,.slice A0_4 l0_4.length c0_4]) ?_ 3 _ rfl;(with_reducible repeat (first|refine blk_drewN ?_ _|refine blk_drew ?_|refine blk_alloc ?_ _));refine blk_put (cs:=#[.slice Ao14 t749.length co14,.slice Ao16 t752.length co16,.slice A0_2 l0_2.length c0_2,.slice A0_3 l0_3.length c0_3,.slice A0_4 l0_4.length c0_4]) ?_ 2 _ rfl;(with_reducible repeat (first|refine blk_drewN ?_ _|refine blk_drew ?_|refine blk_alloc ?_ _));refine blk_put (cs:=#[.slice Ao14 t749.length co14,.slice A0_1 l0_1.length c0_1,.slice A0_2 l0_2.length c0_2,.slice A0_3 l0_3.length c0_3,.slice A0_4 l0_4.length c0_4]) ?_ 1 _ rfl;(with_reducible repeat (first|refine blk_drewN ?_ _|refine blk_drew ?_|refine blk_alloc ?_ _));refine blk_put (cs:=#[.slice A0_0 l0_0.length c0_0,.slice A0_1 l0_1.length c0_1,.slice A0_2 l0_2.length c0_2,.slice A0_3 l0_3.length c0_3,.slice A0_4 l0_4.length c0_4]) ?_ 0 _ rfl;(with_reducible repeat (first|refine blk_drewN ?_ _|refine blk_drew ?_|refine blk_alloc ?_ _));exact BK746.out⟩
  have n6_:Aside0 ((((((w13.setCell ⟨gb746,0,none⟩ (.slice Ao14 t749.length co14)).setCell ⟨gb746,1,none⟩ (.slice Ao16 t752.length co16)).setCell ⟨gb746,2,none⟩ (.slice Ao17 t755.length co17)).setCell ⟨gb746,3,none⟩ (.slice Ao18 t758.length co18)).setCell ⟨gb746,4,none⟩ (.slice Ao19 t761.length co19)).heap[gb747]?=some (.cells #[.slice none 0 0,.slice none 0 0,.slice none 0 0,.slice none 0 0,.slice none 0 0] 26 (0,0))):=⟨by (with_reducible repeat (first|refine blk_drewN ?_ _|refine blk_drew ?_|refine blk_alloc ?_ _));refine blk_far ?_ NB747_746.out _;(with_reducible repeat (first|refine blk_drewN ?_ _|refine blk_drew ?_|refine blk_alloc ?_ _));refine blk_far ?_ NB747_746.out _;(with_reducible repeat (first|refine blk_drewN ?_ _|refine blk_drew ?_|refine blk_alloc ?_ _));refine blk_far ?_ NB747_746.out _;(with_reducible repeat (first|refine blk_drewN ?_ _|refine blk_drew ?_|refine blk_alloc ?_ _));refine blk_far ?_ NB747_746.out _;(with_reducible repeat (first|refine blk_drewN ?_ _|refine blk_drew ?_|refine blk_alloc ?_ _));refine blk_far ?_ NB747_746.out _;(with_reducible repeat (first|refine blk_drewN ?_ _|refine blk_drew ?_|refine blk_alloc ?_ _));exact BK747.out⟩
  have n7_:Aside0 (Below w.heap.size w (((((w13.setCell ⟨gb746,0,none⟩ (.slice Ao14 t749.length co14)).setCell ⟨gb746,1,none⟩ (.slice Ao16 t752.length co16)).setCell ⟨gb746,2,none⟩ (.slice Ao17 t755.length co17)).setCell ⟨gb746,3,none⟩ (.slice Ao18 t758.length co18)).setCell ⟨gb746,4,none⟩ (.slice Ao19 t761.length co19))):=⟨by repeat (first|(with_reducible first|exact HB.out|apply below_alloc|apply pw_below_drewN|apply below_drew1|refine below_set ?_ GE746.out|refine below_set ?_ GE747.out)|exact HB.out)⟩
  (try clear HO751)
  (try clear HO754)
  (try clear HO757)
  (try clear HO760)
  (try clear HO763)
  (try clear BK746)
  (try clear BK747)
  (try clear HB)
  generalize (((((w13.setCell ⟨gb746,0,none⟩ (.slice Ao14 t749.length co14)).setCell ⟨gb746,1,none⟩ (.slice Ao16 t752.length co16)).setCell ⟨gb746,2,none⟩ (.slice Ao17 t755.length co17)).setCell ⟨gb746,3,none⟩ (.slice Ao18 t758.length co18)).setCell ⟨gb746,4,none⟩ (.slice Ao19 t761.length co19))=w20 at n0_ n1_ n2_ n3_ n4_ n5_ n6_ n7_ ⊢
  have HO751:=n0_
  have HO754:=n1_
  have HO757:=n2_
  have HO760:=n3_
  have HO763:=n4_
  have BK746:=n5_
  have BK747:=n6_
  have HB:=n7_
  clear n0_ n1_ n2_ n3_ n4_ n5_ n6_ n7_
  have n0_:=Ak (Kd.R_drew HO751.out)
  have n1_:=Ak (Kd.R_drew HO754.out)
  have n2_:=Ak (Kd.R_drew HO757.out)
  have n3_:=Ak (Kd.R_drew HO760.out)
  have n4_:=Ak (Kd.R_drew HO763.out)
  have n5_:=Ak (blk_drew BK746.out)
  have n6_:=Ak (blk_drew BK747.out)
  have n7_:=Ak (below_drew1 HB.out)
  clear HO751
  clear HO754
  clear HO757
  clear HO760
  clear HO763
  clear BK746
  clear BK747
  clear HB
  have HO751:=n0_
  have HO754:=n1_
  have HO757:=n2_
  have HO760:=n3_
  have HO763:=n4_
  have BK746:=n5_
  have BK747:=n6_
  have HB:=n7_
  clear n0_ n1_ n2_ n3_ n4_ n5_ n6_ n7_
  refine start_ (n:=10) (S:=fun w'=>w'.cell? ⟨gb746,0,none⟩=some (.slice Ao14 t749.length co14)∧w'.cell? ⟨gb746,1,none⟩=some (.slice Ao16 t752.length co16)∧w'.cell? ⟨gb746,2,none⟩=some (.slice Ao17 t755.length co17)∧w'.cell? ⟨gb746,3,none⟩=some (.slice Ao18 t758.length co18)∧w'.cell? ⟨gb746,4,none⟩=some (.slice Ao19 t761.length co19)) (ds:=[7,9]) #[false,false,false,false,false,false,false,false,false,false] (by kernel_rfl) rfl rfl ⟨(blk_cell BK746.out 0).trans rfl,(blk_cell BK746.out 1).trans rfl,(blk_cell BK746.out 2).trans rfl,(blk_cell BK746.out 3).trans rfl,(blk_cell BK746.out 4).trans rfl⟩ (fun hHeld=>?_);refine with_tabW impl_StoreFall.tab4 impl_StoreFall.bits4 (fun HT_ HW_=>?_)
  generalize w20.drew=w21 at HO751 HO754 HO757 HO760 HO763 BK746 BK747 HB hHeld ⊢
  refine pure_ (i:=0) (N:=some 9) (v:=?_) (a':=?_) #[T0,F0,F0,F0,F0,F0,F0,F0,F0,F0] rfl rfl (any_of HT_.out (by kernel_rfl)) (fun _ _ _ h=>h) (Or.inl ⟨by rfl,?_⟩) ?_ ?_
  rotate_left
  ·intro w'
   go_simp
   with_reducible rfl
  rotate_left
  ·simp only [Act.put,zzA,zzB,zzC,i64_w,i32_w]
   rfl
  refine pure_ (i:=3) (N:=some 12) (v:=?_) (a':=?_) #[T0,F0,F0,T0,F0,F0,F0,F0,F0,F0] rfl rfl (any_of HT_.out (by kernel_rfl)) (fun _ _ _ h=>h) (Or.inl ⟨by rfl,?_⟩) ?_ ?_
  rotate_left
  ·intro w'
   go_simp
   with_reducible rfl
  rotate_left
  ·simp only [Act.put,zzA,zzB,zzC,i64_w,i32_w]
   rfl
  refine take_ (i:=1) (N:=some 10) (v:=?_) (a':=?_) #[T0,T0,F0,T0,F0,F0,F0,F0,F0,F0] rfl rfl (take_ofW HT_.out HW_.out (by kernel_rfl)) (fun _ _ _ h=>h) (Or.inl ⟨by rfl,?_⟩) hHeld ?_ ?_
  rotate_left
  ·rintro w' ⟨s0,s1,s2,s3,s4⟩
   go_simp
   with_reducible rfl
  rotate_left
  ·simp only [Act.put,zzA,zzB,zzC,i64_w,i32_w]
   rfl
  refine take_ (i:=4) (N:=some 13) (v:=?_) (a':=?_) #[T0,T0,F0,T0,T0,F0,F0,F0,F0,F0] rfl rfl (take_ofW HT_.out HW_.out (by kernel_rfl)) (fun _ _ _ h=>h) (Or.inl ⟨by rfl,?_⟩) hHeld ?_ ?_
  rotate_left
  ·rintro w' ⟨s0,s1,s2,s3,s4⟩
   go_simp
   with_reducible rfl
  rotate_left
  ·simp only [Act.put,zzA,zzB,zzC,i64_w,i32_w]
   rfl
  refine one_ (i:=2) (N:=some 11) #[T0,T0,T0,T0,T0,F0,F0,F0,F0,F0] rfl rfl (one_of HT_.out (by kernel_rfl)) (by decide) (fun K hK=>?_)
  refine goes_ Try.func53 (by kernel_rfl) rfl #[.slice Ao16 t752.length co16] (by rfl) rfl rfl (by (try simp only [List.map_toArray,List.map_cons,List.map_nil]);first|done|rfl|(simp only [List.length_drop,List.length_take];rfl)) ?_
  with_reducible refine (slices_Clone_string_string.calls _ _ t752 t764 _ ?side1 ?side2 A5.out).mono ?_
  (case side1=>repeat (first|exact (Kd.R_reads' HO754.out).2.2|(with_reducible refine Kd.C_alloc ?_ _)|(with_reducible refine Kd.C_drewN ?_ _)|(with_reducible refine Kd.C_drew ?_)))
  (case side2=>exact (Kd.R_reads' HO754.out).2.1)
  rintro e w22 ⟨v765,rfl,ho0,hb⟩
  refine ⟨_,rfl,?_⟩
  have n0_:=Ak (Kd.R_elder' (by (with_reducible repeat (first|apply Kd.R_alloc|apply Kd.R_drewN|apply Kd.R_drew));exact HO751.out) (Kd.R_base ho0) hb)
  have n1_:=Ak (Kd.R_elder' (by (with_reducible repeat (first|apply Kd.R_alloc|apply Kd.R_drewN|apply Kd.R_drew));exact HO754.out) (Kd.R_base ho0) hb)
  have n2_:=Ak (Kd.R_below (by (with_reducible repeat (first|apply Kd.R_alloc|apply Kd.R_drewN|apply Kd.R_drew));exact HO757.out) hb)
  have n3_:=Ak (Kd.R_below (by (with_reducible repeat (first|apply Kd.R_alloc|apply Kd.R_drewN|apply Kd.R_drew));exact HO760.out) hb)
  have n4_:=Ak (Kd.R_below (by (with_reducible repeat (first|apply Kd.R_alloc|apply Kd.R_drewN|apply Kd.R_drew));exact HO763.out) hb)
  have n5_:=Ak (Kd.R_lower (Kd.R_new' (Kd.R_new' ho0 (Kd.R_lt (by (with_reducible repeat (first|apply Kd.R_alloc|apply Kd.R_drewN|apply Kd.R_drew));exact HO751.out))) (Kd.R_lt (by (with_reducible repeat (first|apply Kd.R_alloc|apply Kd.R_drewN|apply Kd.R_drew));exact HO754.out))) (below_size (by repeat (first|(with_reducible first|exact HB.out|apply below_alloc|apply pw_below_drewN|apply below_drew1|refine below_set ?_ GE746.out|refine below_set ?_ GE747.out)|exact HB.out))))
  have n6_:=Ak (blk_below (g:=gb746) (o:=.cells #[.slice Ao14 t749.length co14,.slice Ao16 t752.length co16,.slice Ao17 t755.length co17,.slice Ao18 t758.length co18,.slice Ao19 t761.length co19] 26 (0,0)) (by (with_reducible repeat (first|refine blk_drewN ?_ _|refine blk_drew ?_|refine blk_alloc ?_ _));exact BK746.out) hb)
  have n7_:=Ak (blk_below (g:=gb747) (o:=.cells #[.slice none 0 0,.slice none 0 0,.slice none 0 0,.slice none 0 0,.slice none 0 0] 26 (0,0)) (by (with_reducible repeat (first|refine blk_drewN ?_ _|refine blk_drew ?_|refine blk_alloc ?_ _));exact BK747.out) hb)
  have n8_:=Ak (below_step (by repeat (first|(with_reducible first|exact HB.out|apply below_alloc|apply pw_below_drewN|apply below_drew1|refine below_set ?_ GE746.out|refine below_set ?_ GE747.out)|exact HB.out)) hb)
  clear HO751
  clear HO754
  clear HO757
  clear HO760
  clear HO763
  clear BK746
  clear BK747
  clear HB
  have HO751:=n0_
  have HO754:=n1_
  have HO757:=n2_
  have HO760:=n3_
  have HO763:=n4_
  have HO766:=n5_
  have BK746:=n6_
  have BK747:=n7_
  have HB:=n8_
  clear n0_ n1_ n2_ n3_ n4_ n5_ n6_ n7_ n8_
  (try clear hb)
  (try clear hb2)
  (try clear hk)
  (try clear hi)
  (try clear ho0)
  refine hK.out _ _ ⟨(blk_cell BK746.out 0).trans rfl,(blk_cell BK746.out 1).trans rfl,(blk_cell BK746.out 2).trans rfl,(blk_cell BK746.out 3).trans rfl,(blk_cell BK746.out 4).trans rfl⟩ (fun hHeld=>?_)
  clear hK K
  refine norm_ (a':=?_) ?_ ?_
  rotate_left
  ·show Act.put _ (some 11) _=_
   simp only [Act.put,zzA,zzB,zzC,i64_w,i32_w]
   rfl
  refine pure_ (i:=6) (N:=some 15) (v:=?_) (a':=?_) #[T0,T0,T0,T0,T0,F0,T0,F0,F0,F0] rfl rfl (any_of HT_.out (by kernel_rfl)) (fun _ _ _ h=>h) (Or.inl ⟨by rfl,?_⟩) ?_ ?_
  rotate_left
  ·intro w'
   go_simp
   with_reducible rfl
  rotate_left
  ·simp only [Act.put,zzA,zzB,zzC,i64_w,i32_w]
   rfl
  refine one_ (i:=5) (N:=some 14) #[T0,T0,T0,T0,T0,T0,T0,F0,F0,F0] rfl rfl (one_of HT_.out (by kernel_rfl)) (by decide) (fun K hK=>?_)
  refine goes_ Try.func54 (by kernel_rfl) rfl #[.slice Ao18 t758.length co18] (by rfl) rfl rfl (by (try simp only [List.map_toArray,List.map_cons,List.map_nil]);first|done|rfl|(simp only [List.length_drop,List.length_take];rfl)) ?_
  with_reducible refine (slices_Clone_int_int.calls _ _ t758 t767 _ ?side1 ?side2 A6.out).mono ?_
  (case side1=>repeat (first|exact (Kd.R_reads' HO760.out).2.2|(with_reducible refine Kd.C_alloc ?_ _)|(with_reducible refine Kd.C_drewN ?_ _)|(with_reducible refine Kd.C_drew ?_)))
  (case side2=>exact (Kd.R_reads' HO760.out).2.1)
  rintro e w23 ⟨v768,rfl,ho0,hb⟩
  refine ⟨_,rfl,?_⟩
  have n0_:=Ak (Kd.R_below (by (with_reducible repeat (first|apply Kd.R_alloc|apply Kd.R_drewN|apply Kd.R_drew));exact HO751.out) hb)
  have n1_:=Ak (Kd.R_below (by (with_reducible repeat (first|apply Kd.R_alloc|apply Kd.R_drewN|apply Kd.R_drew));exact HO754.out) hb)
  have n2_:=Ak (Kd.R_elder' (by (with_reducible repeat (first|apply Kd.R_alloc|apply Kd.R_drewN|apply Kd.R_drew));exact HO757.out) (Kd.R_base ho0) hb)
  have n3_:=Ak (Kd.R_elder' (by (with_reducible repeat (first|apply Kd.R_alloc|apply Kd.R_drewN|apply Kd.R_drew));exact HO760.out) (Kd.R_base ho0) hb)
  have n4_:=Ak (Kd.R_elder' (by (with_reducible repeat (first|apply Kd.R_alloc|apply Kd.R_drewN|apply Kd.R_drew));exact HO763.out) (Kd.R_base ho0) hb)
  have n5_:=Ak (Kd.R_below (by (with_reducible repeat (first|apply Kd.R_alloc|apply Kd.R_drewN|apply Kd.R_drew));exact HO766.out) hb)
  have n6_:=Ak (Kd.R_lower (Kd.R_new' (Kd.R_new' (Kd.R_new' ho0 (Kd.R_lt (by (with_reducible repeat (first|apply Kd.R_alloc|apply Kd.R_drewN|apply Kd.R_drew));exact HO757.out))) (Kd.R_lt (by (with_reducible repeat (first|apply Kd.R_alloc|apply Kd.R_drewN|apply Kd.R_drew));exact HO760.out))) (Kd.R_lt (by (with_reducible repeat (first|apply Kd.R_alloc|apply Kd.R_drewN|apply Kd.R_drew));exact HO763.out))) (below_size (by repeat (first|(with_reducible first|exact HB.out|apply below_alloc|apply pw_below_drewN|apply below_drew1|refine below_set ?_ GE746.out|refine below_set ?_ GE747.out)|exact HB.out))))
  have n7_:=Ak (blk_below (g:=gb746) (o:=.cells #[.slice Ao14 t749.length co14,.slice Ao16 t752.length co16,.slice Ao17 t755.length co17,.slice Ao18 t758.length co18,.slice Ao19 t761.length co19] 26 (0,0)) (by (with_reducible repeat (first|refine blk_drewN ?_ _|refine blk_drew ?_|refine blk_alloc ?_ _));exact BK746.out) hb)
  have n8_:=Ak (blk_below (g:=gb747) (o:=.cells #[.slice none 0 0,.slice none 0 0,.slice none 0 0,.slice none 0 0,.slice none 0 0] 26 (0,0)) (by (with_reducible repeat (first|refine blk_drewN ?_ _|refine blk_drew ?_|refine blk_alloc ?_ _));exact BK747.out) hb)
  have n9_:=Ak (below_step (by repeat (first|(with_reducible first|exact HB.out|apply below_alloc|apply pw_below_drewN|apply below_drew1|refine below_set ?_ GE746.out|refine below_set ?_ GE747.out)|exact HB.out)) hb)
  clear HO751
  clear HO754
  clear HO757
  clear HO760
  clear HO763
  clear HO766
  clear BK746
  clear BK747
  clear HB
  have HO751:=n0_
  have HO754:=n1_
  have HO757:=n2_
  have HO760:=n3_
  have HO763:=n4_
  have HO766:=n5_
  have HO769:=n6_
  have BK746:=n7_
  have BK747:=n8_
  have HB:=n9_
  clear n0_ n1_ n2_ n3_ n4_ n5_ n6_ n7_ n8_ n9_
  (try clear hb)
  (try clear hb2)
  (try clear hk)
  (try clear hi)
  (try clear ho0)
  obtain ⟨Ao24,co24,eo24⟩:=Kd.R_slice HO766.out
  (first|subst eo24|(injection eo24 with f1_ f2_ f3_;have f4_:=f1_.symm;have f5_:=f3_.symm;clear f1_ f2_ f3_;subst f4_;subst f5_))
  obtain ⟨Ao26,co26,eo26⟩:=Kd.R_slice HO769.out
  (first|subst eo26|(injection eo26 with f1_ f2_ f3_;have f4_:=f1_.symm;have f5_:=f3_.symm;clear f1_ f2_ f3_;subst f4_;subst f5_))
  refine hK.out _ _ ⟨(blk_cell BK746.out 0).trans rfl,(blk_cell BK746.out 1).trans rfl,(blk_cell BK746.out 2).trans rfl,(blk_cell BK746.out 3).trans rfl,(blk_cell BK746.out 4).trans rfl⟩ (fun hHeld=>?_)
  clear hK K
  refine norm_ (a':=?_) ?_ ?_
  rotate_left
  ·show Act.put _ (some 14) _=_
   simp only [Act.put,zzA,zzB,zzC,i64_w,i32_w]
   rfl
  refine last_ (i:=7) (N:=none) #[T0,T0,T0,T0,T0,T0,T0,T0,F0,F0] rfl rfl (one_of HT_.out (by kernel_rfl)) (by decide) (fun K hK=>?_)
  have hs25:w23.cell? ⟨gb746,0,none⟩=some (.slice Ao14 t749.length co14):=(blk_cell BK746.out 0).trans rfl
  have hfs25:=blk_frozen BK746.out 0
  have hns25_1:=NB747_746.out
  have hms25_1:=NB746_747.out
  refine skip_ (w1:=?_) (by rfl) rfl ?_ ?_
  rotate_left
  ·go_simp
   rfl
  refine hK.out _ _ ?_
  clear hK K
  refine pure_ (i:=8) (N:=some 16) (v:=?_) (a':=?_) #[T0,T0,T0,T0,T0,T0,T0,T0,T0,F0] rfl rfl (any_of HT_.out (by kernel_rfl)) (fun _ _ _ h=>h) (Or.inl ⟨by rfl,?_⟩) ?_ ?_
  rotate_left
  ·intro w'
   go_simp
   with_reducible rfl
  rotate_left
  ·simp only [Act.put,zzA,zzB,zzC,i64_w,i32_w]
   rfl
  refine last_ (i:=9) (N:=none) #[T0,T0,T0,T0,T0,T0,T0,T0,T0,T0] rfl rfl (one_of HT_.out (by kernel_rfl)) (by decide) (fun K hK=>?_)
  have hs27:w23.cell? ⟨gb746,2,none⟩=some (.slice Ao17 t755.length co17):=(blk_cell BK746.out 2).trans rfl
  have hfs27:=blk_frozen BK746.out 2
  have hns27_1:=NB747_746.out
  have hms27_1:=NB746_747.out
  refine skip_ (w1:=?_) (by rfl) rfl ?_ ?_
  rotate_left
  ·go_simp
   rfl
  refine hK.out _ _ ?_
  clear hK K
  refine done_ (done_of HT_.out (by kernel_rfl)) ?_
  have hcz28_0:w23.cell? ⟨gb746,0,none⟩=some (.slice Ao14 t749.length co14):=(blk_cell BK746.out 0).trans rfl
  have hcz28_1:w23.cell? ⟨gb746,1,none⟩=some (.slice Ao16 t752.length co16):=(blk_cell BK746.out 1).trans rfl
  have hcz28_2:w23.cell? ⟨gb746,2,none⟩=some (.slice Ao17 t755.length co17):=(blk_cell BK746.out 2).trans rfl
  have hcz28_3:w23.cell? ⟨gb746,3,none⟩=some (.slice Ao18 t758.length co18):=(blk_cell BK746.out 3).trans rfl
  have hcz28_4:w23.cell? ⟨gb746,4,none⟩=some (.slice Ao19 t761.length co19):=(blk_cell BK746.out 4).trans rfl
  have hfz28_0:=blk_frozen BK746.out 0
  have hfz28_1:=blk_frozen BK746.out 1
  have hfz28_2:=blk_frozen BK746.out 2
  have hfz28_3:=blk_frozen BK746.out 3
  have hfz28_4:=blk_frozen BK746.out 4
  have hcz29_0:w23.cell? ⟨gb747,0,none⟩=some (.slice none 0 0):=(blk_cell BK747.out 0).trans rfl
  have hcz29_1:w23.cell? ⟨gb747,1,none⟩=some (.slice none 0 0):=(blk_cell BK747.out 1).trans rfl
  have hcz29_2:w23.cell? ⟨gb747,2,none⟩=some (.slice none 0 0):=(blk_cell BK747.out 2).trans rfl
  have hcz29_3:w23.cell? ⟨gb747,3,none⟩=some (.slice none 0 0):=(blk_cell BK747.out 3).trans rfl
  have hcz29_4:w23.cell? ⟨gb747,4,none⟩=some (.slice none 0 0):=(blk_cell BK747.out 4).trans rfl
  have hfz29_0:=blk_frozen BK747.out 0
  have hfz29_1:=blk_frozen BK747.out 1
  have hfz29_2:=blk_frozen BK747.out 2
  have hfz29_3:=blk_frozen BK747.out 3
  have hfz29_4:=blk_frozen BK747.out 4
  try go_wp2
  refine bodyPost_ret (results_cell_row rfl _ _ gb747 26 #[.slice Ao24 t764.length co24,.slice Ao16 t752.length co16,.slice Ao26 t767.length co26,.slice Ao18 t758.length co18,.slice Ao19 t761.length co19] (0,0) _ rfl (by (with_reducible repeat (first|refine blk_drewN ?_ _|refine blk_drew ?_|refine blk_alloc ?_ _));refine blk_put (cs:=#[.slice Ao24 t764.length co24,.slice Ao16 t752.length co16,.slice Ao26 t767.length co26,.slice Ao18 t758.length co18,.slice none 0 0]) ?_ 4 _ rfl;(with_reducible repeat (first|refine blk_drewN ?_ _|refine blk_drew ?_|refine blk_alloc ?_ _));refine blk_put (cs:=#[.slice Ao24 t764.length co24,.slice Ao16 t752.length co16,.slice Ao26 t767.length co26,.slice none 0 0,.slice none 0 0]) ?_ 3 _ rfl;(with_reducible repeat (first|refine blk_drewN ?_ _|refine blk_drew ?_|refine blk_alloc ?_ _));refine blk_put (cs:=#[.slice Ao24 t764.length co24,.slice Ao16 t752.length co16,.slice none 0 0,.slice none 0 0,.slice none 0 0]) ?_ 2 _ rfl;(with_reducible repeat (first|refine blk_drewN ?_ _|refine blk_drew ?_|refine blk_alloc ?_ _));refine blk_put (cs:=#[.slice Ao24 t764.length co24,.slice none 0 0,.slice none 0 0,.slice none 0 0,.slice none 0 0]) ?_ 1 _ rfl;(with_reducible repeat (first|refine blk_drewN ?_ _|refine blk_drew ?_|refine blk_alloc ?_ _));refine blk_put (cs:=#[.slice none 0 0,.slice none 0 0,.slice none 0 0,.slice none 0 0,.slice none 0 0]) ?_ 0 _ rfl;(with_reducible repeat (first|refine blk_drewN ?_ _|refine blk_drew ?_|refine blk_alloc ?_ _));refine blk_far ?_ NB747_746.out _;(with_reducible repeat (first|refine blk_drewN ?_ _|refine blk_drew ?_|refine blk_alloc ?_ _));refine blk_far ?_ NB747_746.out _;(with_reducible repeat (first|refine blk_drewN ?_ _|refine blk_drew ?_|refine blk_alloc ?_ _));exact BK747.out) Try.underlying26 rfl (by kernel_rfl)) rfl ?_
  exact ⟨_,_,_,_,_,by first|rfl|(simp [errW_none,errW_some] <;> rfl)|(simp [*,errW_none,errW_some] <;> rfl),by (with_reducible repeat (first|apply Kd.R_alloc|apply Kd.R_drewN|apply Kd.R_drew));exact Kd.R_mono (Kd.R_far (p:=⟨gb747,4,none⟩) (Kd.R_far (p:=⟨gb747,3,none⟩) (Kd.R_far (p:=⟨gb747,2,none⟩) (Kd.R_far (p:=⟨gb747,1,none⟩) (Kd.R_far (p:=⟨gb747,0,none⟩) (Kd.R_far (p:=⟨gb746,2,none⟩) (Kd.R_far (p:=⟨gb746,0,none⟩) (Kd.R_types (Kd.R_types HO766.out BK746.out (by decide)) BK747.out (by decide)) (fun _ hk=>hk.1.2) (.slice Ao24 t764.length co24)) (fun _ hk=>hk.1.2) (.slice Ao26 t767.length co26)) (fun _ hk=>hk.2) (.slice Ao24 t764.length co24)) (fun _ hk=>hk.2) (.slice Ao16 t752.length co16)) (fun _ hk=>hk.2) (.slice Ao26 t767.length co26)) (fun _ hk=>hk.2) (.slice Ao18 t758.length co18)) (fun _ hk=>hk.2) (.slice Ao19 t761.length co19)) (fun _ hk=>hk.1.1.2),by (with_reducible repeat (first|apply Kd.R_alloc|apply Kd.R_drewN|apply Kd.R_drew));exact Kd.R_mono (Kd.R_far (p:=⟨gb747,4,none⟩) (Kd.R_far (p:=⟨gb747,3,none⟩) (Kd.R_far (p:=⟨gb747,2,none⟩) (Kd.R_far (p:=⟨gb747,1,none⟩) (Kd.R_far (p:=⟨gb747,0,none⟩) (Kd.R_far (p:=⟨gb746,2,none⟩) (Kd.R_far (p:=⟨gb746,0,none⟩) (Kd.R_types (Kd.R_types HO754.out BK746.out (by decide)) BK747.out (by decide)) (fun _ hk=>hk.1.2) (.slice Ao24 t764.length co24)) (fun _ hk=>hk.1.2) (.slice Ao26 t767.length co26)) (fun _ hk=>hk.2) (.slice Ao24 t764.length co24)) (fun _ hk=>hk.2) (.slice Ao16 t752.length co16)) (fun _ hk=>hk.2) (.slice Ao26 t767.length co26)) (fun _ hk=>hk.2) (.slice Ao18 t758.length co18)) (fun _ hk=>hk.2) (.slice Ao19 t761.length co19)) (fun _ hk=>hk.1.1.2),by (with_reducible repeat (first|apply Kd.R_alloc|apply Kd.R_drewN|apply Kd.R_drew));exact Kd.R_mono (Kd.R_far (p:=⟨gb747,4,none⟩) (Kd.R_far (p:=⟨gb747,3,none⟩) (Kd.R_far (p:=⟨gb747,2,none⟩) (Kd.R_far (p:=⟨gb747,1,none⟩) (Kd.R_far (p:=⟨gb747,0,none⟩) (Kd.R_far (p:=⟨gb746,2,none⟩) (Kd.R_far (p:=⟨gb746,0,none⟩) (Kd.R_types (Kd.R_types HO769.out BK746.out (by decide)) BK747.out (by decide)) (fun _ hk=>hk.1.2) (.slice Ao24 t764.length co24)) (fun _ hk=>hk.1.2) (.slice Ao26 t767.length co26)) (fun _ hk=>hk.2) (.slice Ao24 t764.length co24)) (fun _ hk=>hk.2) (.slice Ao16 t752.length co16)) (fun _ hk=>hk.2) (.slice Ao26 t767.length co26)) (fun _ hk=>hk.2) (.slice Ao18 t758.length co18)) (fun _ hk=>hk.2) (.slice Ao19 t761.length co19)) (fun _ hk=>⟨hk.1.1.1.2,hk.1.1.2⟩),by (with_reducible repeat (first|apply Kd.R_alloc|apply Kd.R_drewN|apply Kd.R_drew));exact Kd.R_mono (Kd.R_far (p:=⟨gb747,4,none⟩) (Kd.R_far (p:=⟨gb747,3,none⟩) (Kd.R_far (p:=⟨gb747,2,none⟩) (Kd.R_far (p:=⟨gb747,1,none⟩) (Kd.R_far (p:=⟨gb747,0,none⟩) (Kd.R_far (p:=⟨gb746,2,none⟩) (Kd.R_far (p:=⟨gb746,0,none⟩) (Kd.R_types (Kd.R_types HO760.out BK746.out (by decide)) BK747.out (by decide)) (fun _ hk=>hk.1.2) (.slice Ao24 t764.length co24)) (fun _ hk=>hk.1.2) (.slice Ao26 t767.length co26)) (fun _ hk=>hk.2) (.slice Ao24 t764.length co24)) (fun _ hk=>hk.2) (.slice Ao16 t752.length co16)) (fun _ hk=>hk.2) (.slice Ao26 t767.length co26)) (fun _ hk=>hk.2) (.slice Ao18 t758.length co18)) (fun _ hk=>hk.2) (.slice Ao19 t761.length co19)) (fun _ hk=>⟨hk.1.1.2,hk.1.1.1.2⟩),by (with_reducible repeat (first|apply Kd.R_alloc|apply Kd.R_drewN|apply Kd.R_drew));exact Kd.R_mono (Kd.R_far (p:=⟨gb747,4,none⟩) (Kd.R_far (p:=⟨gb747,3,none⟩) (Kd.R_far (p:=⟨gb747,2,none⟩) (Kd.R_far (p:=⟨gb747,1,none⟩) (Kd.R_far (p:=⟨gb747,0,none⟩) (Kd.R_far (p:=⟨gb746,2,none⟩) (Kd.R_far (p:=⟨gb746,0,none⟩) (Kd.R_types (Kd.R_types HO763.out BK746.out (by decide)) BK747.out (by decide)) (fun _ hk=>hk.1.2) (.slice Ao24 t764.length co24)) (fun _ hk=>hk.1.2) (.slice Ao26 t767.length co26)) (fun _ hk=>hk.2) (.slice Ao24 t764.length co24)) (fun _ hk=>hk.2) (.slice Ao16 t752.length co16)) (fun _ hk=>hk.2) (.slice Ao26 t767.length co26)) (fun _ hk=>hk.2) (.slice Ao18 t758.length co18)) (fun _ hk=>hk.2) (.slice Ao19 t761.length co19)) (fun _ hk=>⟨hk.1.1.2,hk.1.1.1.2⟩),by repeat (first|(with_reducible first|exact HB.out|apply below_alloc|apply pw_below_drewN|apply below_drew1|refine below_set ?_ GE746.out|refine below_set ?_ GE747.out)|exact HB.out)⟩
 ·replace c3:=Bool.eq_false_iff.mpr c3
  subst c3
  have H1:(some (([]:List ByteArray),([]:List ByteArray),([]:List Int),([]:List Int),([]:List Int)))=some (r1,r2,r3,r4,r5):=by rw [if_neg (show ¬ (false=true) by decide)] at H;exact H
  clear H
  have H:=H1
  clear H1
  simp only [Option.some.injEq,Prod.mk.injEq] at H
  obtain ⟨rfl,rfl,rfl,rfl,rfl⟩:=H
  go_enter Try.func20,Try.ntmps20
  go_wp2_with (first|((with_reducible refine gate_dst (N:=1) rfl ?_);refine box_event ?hg (N:=1) ?hd (cs:=#[.slice A0_0 l0_0.length c0_0,.slice A0_1 l0_1.length c0_1,.slice A0_2 l0_2.length c0_2,.slice A0_3 l0_3.length c0_3,.slice A0_4 l0_4.length c0_4]) (t:=26) ?hr ?_;(case hd=>rfl);(case hg=>rfl);(case hr=>first|(go_simp;done)|(go_simp;rfl));intro gb746 hg w30 hbox hb;have n0_:=Ak (below_step (by repeat (first|(with_reducible first|exact HB.out|apply below_alloc|apply pw_below_drewN|apply below_drew1)|exact HB.out)) hb);have n1_:=Ak (hbox);have n2_:=Ak ((by rw [hg];exact (below_size (by repeat (first|(with_reducible first|exact HB.out|apply below_alloc|apply pw_below_drewN|apply below_drew1)|exact HB.out))):w.heap.size≤gb746));have n3_:=Ak ((by rw [hg];exact (below_size (by repeat (first|(with_reducible first|exact HB.out|apply below_alloc|apply pw_below_drewN|apply below_drew1)|exact HB.out))):w.heap.size≤gb746));clear HB;have HB:=n0_;have BK746:=n1_;have GW746:=n2_;have GE746:=n3_;clear n0_ n1_ n2_ n3_;clear hb hbox hg)|((with_reducible refine gate_dst (N:=2) rfl ?_);refine box_event ?hg (N:=2) ?hd (cs:=#[.slice none 0 0,.slice none 0 0,.slice none 0 0,.slice none 0 0,.slice none 0 0]) (t:=26) ?hr ?_;(case hd=>rfl);(case hg=>rfl);(case hr=>first|(go_simp;done)|(go_simp;rfl));intro gb747 hg w31 hbox hb;have n0_:=Ak (blk_below (g:=gb746) (o:=.cells #[.slice A0_0 l0_0.length c0_0,.slice A0_1 l0_1.length c0_1,.slice A0_2 l0_2.length c0_2,.slice A0_3 l0_3.length c0_3,.slice A0_4 l0_4.length c0_4] 26 (0,0)) (by (with_reducible repeat (first|refine blk_drewN ?_ _|refine blk_drew ?_|refine blk_alloc ?_ _));exact BK746.out) hb);have n1_:=Ak (below_step (by repeat (first|(with_reducible first|exact HB.out|apply below_alloc|apply pw_below_drewN|apply below_drew1|refine below_set ?_ GE746.out)|exact HB.out)) hb);have n2_:=Ak (hbox);have n3_:=Ak ((by rw [hg];exact (below_size (by repeat (first|(with_reducible first|exact HB.out|apply below_alloc|apply pw_below_drewN|apply below_drew1|refine below_set ?_ GE746.out)|exact HB.out))):w.heap.size≤gb747));have n4_:=Ak ((by rw [hg];exact (below_size (by repeat (first|(with_reducible first|exact HB.out|apply below_alloc|apply pw_below_drewN|apply below_drew1|refine below_set ?_ GE746.out)|exact HB.out))):w.heap.size≤gb747));have n5_:=Ak ((by rw [hg];exact Nat.ne_of_lt (blk_lt (g:=gb746) (o:=.cells #[.slice A0_0 l0_0.length c0_0,.slice A0_1 l0_1.length c0_1,.slice A0_2 l0_2.length c0_2,.slice A0_3 l0_3.length c0_3,.slice A0_4 l0_4.length c0_4] 26 (0,0)) (by (with_reducible repeat (first|refine blk_drewN ?_ _|refine blk_drew ?_|refine blk_alloc ?_ _));exact BK746.out)):gb746 ≠ gb747));have n6_:=Ak ((by rw [hg];exact Nat.ne_of_gt (blk_lt (g:=gb746) (o:=.cells #[.slice A0_0 l0_0.length c0_0,.slice A0_1 l0_1.length c0_1,.slice A0_2 l0_2.length c0_2,.slice A0_3 l0_3.length c0_3,.slice A0_4 l0_4.length c0_4] 26 (0,0)) (by (with_reducible repeat (first|refine blk_drewN ?_ _|refine blk_drew ?_|refine blk_alloc ?_ _));exact BK746.out)):gb747 ≠ gb746));clear BK746;clear HB;have BK746:=n0_;have HB:=n1_;have BK747:=n2_;have GW747:=n3_;have GE747:=n4_;have NB746_747:=n5_;have NB747_746:=n6_;clear n0_ n1_ n2_ n3_ n4_ n5_ n6_;clear hb hbox hg;have hnb32:=NB746_747.out;have hnc32:=NB747_746.out;have hcz33_0:w31.cell? ⟨gb746,0,none⟩=some (.slice A0_0 l0_0.length c0_0):=(blk_cell BK746.out 0).trans rfl;have hcz33_1:w31.cell? ⟨gb746,1,none⟩=some (.slice A0_1 l0_1.length c0_1):=(blk_cell BK746.out 1).trans rfl;have hcz33_2:w31.cell? ⟨gb746,2,none⟩=some (.slice A0_2 l0_2.length c0_2):=(blk_cell BK746.out 2).trans rfl;have hcz33_3:w31.cell? ⟨gb746,3,none⟩=some (.slice A0_3 l0_3.length c0_3):=(blk_cell BK746.out 3).trans rfl;have hcz33_4:w31.cell? ⟨gb746,4,none⟩=some (.slice A0_4 l0_4.length c0_4):=(blk_cell BK746.out 4).trans rfl;have hfz33_0:=blk_frozen BK746.out 0;have hfz33_1:=blk_frozen BK746.out 1;have hfz33_2:=blk_frozen BK746.out 2;have hfz33_3:=blk_frozen BK746.out 3;have hfz33_4:=blk_frozen BK746.out 4)|((with_reducible refine gate_callee (f:=23) rfl ?_);refine goesL_ (some 4) rfl rfl Try.func23 (by kernel_rfl) rfl #[.agg #[.slice A0_0 l0_0.length c0_0,.slice A0_1 l0_1.length c0_1,.slice A0_2 l0_2.length c0_2,.slice A0_3 l0_3.length c0_3,.slice A0_4 l0_4.length c0_4]] rfl (by (try simp only [List.map_toArray,List.map_cons,List.map_nil]);first|done|rfl|(simp only [List.length_drop,List.length_take];rfl)) ?_;(with_reducible refine (impl_StoreOk.calls k _ _ l0_0 _ _ l0_1 _ _ l0_2 _ _ l0_3 _ _ l0_4 false _ ?side1 ?side2 ?side3 ?side4 ?side5 ?side6 ?side7 ?side8 ?side9 ?side10 A2.out).mono ?_);(case side1=>repeat (first|exact (Kd.C_below HR0_0.out HB.out)|(with_reducible refine Kd.C_alloc ?_ _)|(with_reducible refine Kd.C_drewN ?_ _)|(with_reducible refine Kd.C_drew ?_)));(case side2=>exact HC0_0.out);(case side3=>repeat (first|exact (Kd.C_below HR0_1.out HB.out)|(with_reducible refine Kd.C_alloc ?_ _)|(with_reducible refine Kd.C_drewN ?_ _)|(with_reducible refine Kd.C_drew ?_)));(case side4=>exact HC0_1.out);(case side5=>repeat (first|exact (Kd.C_below HR0_2.out HB.out)|(with_reducible refine Kd.C_alloc ?_ _)|(with_reducible refine Kd.C_drewN ?_ _)|(with_reducible refine Kd.C_drew ?_)));(case side6=>exact HC0_2.out);(case side7=>repeat (first|exact (Kd.C_below HR0_3.out HB.out)|(with_reducible refine Kd.C_alloc ?_ _)|(with_reducible refine Kd.C_drewN ?_ _)|(with_reducible refine Kd.C_drew ?_)));(case side8=>exact HC0_3.out);(case side9=>repeat (first|exact (Kd.C_below HR0_4.out HB.out)|(with_reducible refine Kd.C_alloc ?_ _)|(with_reducible refine Kd.C_drewN ?_ _)|(with_reducible refine Kd.C_drew ?_)));(case side10=>exact HC0_4.out);rintro e w34 ⟨rfl,hb⟩;refine ⟨_,rfl,?_⟩;have n0_:=Ak (blk_below (g:=gb746) (o:=.cells #[.slice A0_0 l0_0.length c0_0,.slice A0_1 l0_1.length c0_1,.slice A0_2 l0_2.length c0_2,.slice A0_3 l0_3.length c0_3,.slice A0_4 l0_4.length c0_4] 26 (0,0)) (by (with_reducible repeat (first|refine blk_drewN ?_ _|refine blk_drew ?_|refine blk_alloc ?_ _));exact BK746.out) hb);have n1_:=Ak (blk_below (g:=gb747) (o:=.cells #[.slice none 0 0,.slice none 0 0,.slice none 0 0,.slice none 0 0,.slice none 0 0] 26 (0,0)) (by (with_reducible repeat (first|refine blk_drewN ?_ _|refine blk_drew ?_|refine blk_alloc ?_ _));exact BK747.out) hb);have n2_:=Ak (below_step (by repeat (first|(with_reducible first|exact HB.out|apply below_alloc|apply pw_below_drewN|apply below_drew1|refine below_set ?_ GE746.out|refine below_set ?_ GE747.out)|exact HB.out)) hb);clear BK746;clear BK747;clear HB;have BK746:=n0_;have BK747:=n1_;have HB:=n2_;clear n0_ n1_ n2_;(try clear hb);(try clear hb2);(try clear hk);(try clear hi);have hcz35_0:w34.cell? ⟨gb747,0,none⟩=some (.slice none 0 0):=(blk_cell BK747.out 0).trans rfl;have hcz35_1:w34.cell? ⟨gb747,1,none⟩=some (.slice none 0 0):=(blk_cell BK747.out 1).trans rfl;have hcz35_2:w34.cell? ⟨gb747,2,none⟩=some (.slice none 0 0):=(blk_cell BK747.out 2).trans rfl;have hcz35_3:w34.cell? ⟨gb747,3,none⟩=some (.slice none 0 0):=(blk_cell BK747.out 3).trans rfl;have hcz35_4:w34.cell? ⟨gb747,4,none⟩=some (.slice none 0 0):=(blk_cell BK747.out 4).trans rfl;have hfz35_0:=blk_frozen BK747.out 0;have hfz35_1:=blk_frozen BK747.out 1;have hfz35_2:=blk_frozen BK747.out 2;have hfz35_3:=blk_frozen BK747.out 3;have hfz35_4:=blk_frozen BK747.out 4))
  refine bodyPost_ret (results_cell_row rfl _ _ gb747 26 #[.slice none 0 0,.slice none 0 0,.slice none 0 0,.slice none 0 0,.slice none 0 0] (0,0) _ rfl (by (with_reducible repeat (first|refine blk_drewN ?_ _|refine blk_drew ?_|refine blk_alloc ?_ _));refine blk_put (cs:=#[.slice none 0 0,.slice none 0 0,.slice none 0 0,.slice none 0 0,.slice none 0 0]) ?_ 4 _ rfl;(with_reducible repeat (first|refine blk_drewN ?_ _|refine blk_drew ?_|refine blk_alloc ?_ _));refine blk_put (cs:=#[.slice none 0 0,.slice none 0 0,.slice none 0 0,.slice none 0 0,.slice none 0 0]) ?_ 3 _ rfl;(with_reducible repeat (first|refine blk_drewN ?_ _|refine blk_drew ?_|refine blk_alloc ?_ _));refine blk_put (cs:=#[.slice none 0 0,.slice none 0 0,.slice none 0 0,.slice none 0 0,.slice none 0 0]) ?_ 2 _ rfl;(with_reducible repeat (first|refine blk_drewN ?_ _|refine blk_drew ?_|refine blk_alloc ?_ _));refine blk_put (cs:=#[.slice none 0 0,.slice none 0 0,.slice none 0 0,.slice none 0 0,.slice none 0 0]) ?_ 1 _ rfl;(with_reducible repeat (first|refine blk_drewN ?_ _|refine blk_drew ?_|refine blk_alloc ?_ _));refine blk_put (cs:=#[.slice none 0 0,.slice none 0 0,.slice none 0 0,.slice none 0 0,.slice none 0 0]) ?_ 0 _ rfl;(with_reducible repeat (first|refine blk_drewN ?_ _|refine blk_drew ?_|refine blk_alloc ?_ _));exact BK747.out) Try.underlying26 rfl (by kernel_rfl)) rfl ?_
  exact ⟨_,_,_,_,_,by first|rfl|(simp [errW_none,errW_some] <;> rfl)|(simp [*,errW_none,errW_some] <;> rfl),by first|exact Kd.R_nil _ _ _ _ _|exact Kd.N_nil _ _ _ _ _|exact Kd.V_nil _ _ _ _ _|exact Kd.Q_nil _ _ _ _ _|exact Kd.S_nil _ _ _ _ _,by first|exact Kd.R_nil _ _ _ _ _|exact Kd.N_nil _ _ _ _ _|exact Kd.V_nil _ _ _ _ _|exact Kd.Q_nil _ _ _ _ _|exact Kd.S_nil _ _ _ _ _,by first|exact Kd.R_nil _ _ _ _ _|exact Kd.N_nil _ _ _ _ _|exact Kd.V_nil _ _ _ _ _|exact Kd.Q_nil _ _ _ _ _|exact Kd.S_nil _ _ _ _ _,by first|exact Kd.R_nil _ _ _ _ _|exact Kd.N_nil _ _ _ _ _|exact Kd.V_nil _ _ _ _ _|exact Kd.Q_nil _ _ _ _ _|exact Kd.S_nil _ _ _ _ _,by first|exact Kd.R_nil _ _ _ _ _|exact Kd.N_nil _ _ _ _ _|exact Kd.V_nil _ _ _ _ _|exact Kd.Q_nil _ _ _ _ _|exact Kd.S_nil _ _ _ _ _,by repeat (first|(with_reducible first|exact HB.out|apply below_alloc|apply pw_below_drewN|apply below_drew1|refine below_set ?_ GE746.out|refine below_set ?_ GE747.out)|exact HB.out)⟩
end Go.Proofs.Ytmekkapacbdbeaa.P
namespace Go.Proofs.Ytmekkapacbdbeaa.P
open Go.RowKit Go.Proofs.YtmekkapacbdbeaaW.PrintWords Go.Proofs.YtmekkapacbdbeaaW.PrintLast Go.Proofs.YtmekkapacbdbeaaW.PrintMore
def stNew:St:=⟨List.replicate 3 ⟨#[]⟩,List.replicate 3 ⟨#[]⟩,List.replicate 3 0,List.replicate 3 0,List.replicate 3 0⟩
theorem stNew_small:Small stNew:=by unfold Small stNew;simp
theorem small_new {t:St} (ht:stNew=t):Small t:=ht ▸ stNew_small
theorem stNone_small:Small stNone:=by unfold Small stNone;simp
def syncSt (s:St):St:=if stOk s=true then ⟨s.now,s.now,s.last,s.last,s.floors⟩ else stNone
def fallSt (s:St):St:=if stOk s=true then ⟨s.sure,s.sure,s.slast,s.slast,s.floors⟩ else stNone
theorem syncSt_small {s t:St} (ht:syncSt s=t) (h:Small s):Small t:=by
 subst ht
 unfold syncSt
 split
 ·exact ⟨h.1,h.1,h.2.2.1,h.2.2.1,h.2.2.2.2⟩
 ·exact stNone_small
theorem fallSt_small {s t:St} (ht:fallSt s=t) (h:Small s):Small t:=by
 subst ht
 unfold fallSt
 split
 ·exact ⟨h.2.1,h.2.1,h.2.2.2.1,h.2.2.2.1,h.2.2.2.2⟩
 ·exact stNone_small
theorem spec_l5Copy_eq {s:St} (hs:Small s):spec_l5Copy.f s.now s.sure s.last s.slast s.floors=some (s.now,s.sure,s.last,s.slast,s.floors):=by
 obtain ⟨g0,g1,g2,g3,g4⟩:=hs
 unfold spec_l5Copy.f
 simp only [Option.bind_some,List.length_nil,Nat.zero_add,List.nil_append]
 rw [if_pos (by omega),if_pos (by omega),if_pos (by omega),if_pos (by omega),if_pos (by omega)]
theorem clone_strs {l:List ByteArray} (h:l.length≤1048576):slices_Clone_string_string.f l=some l:=by
 unfold slices_Clone_string_string.f
 rw [if_pos (by omega)]
theorem clone_ints {l:List Int} (h:l.length≤1048576):slices_Clone_int_int.f l=some l:=by
 unfold slices_Clone_int_int.f
 rw [if_pos (by omega)]
theorem impl_again_eq {s:St} (hs:Small s):impl_again.f s.now s.sure s.last s.slast s.floors=some (s.now,s.sure,s.last,s.slast,s.floors):=by
 obtain ⟨g0,g1,g2,g3,g4⟩:=hs
 unfold impl_again.f
 rw [clone_strs g0,clone_strs g1,clone_ints g2,clone_ints g3,clone_ints g4]
 rfl
section
variable {s:St}
theorem spec_StoreSync_ev (hl:s.now.length≤9223372036854775807∧s.sure.length≤9223372036854775807) (hz:Sized s) (hs:Small s):Ev (fun k=>spec_StoreSync.f k s.now s.sure s.last s.slast s.floors) ((syncSt s).now,(syncSt s).sure,(syncSt s).last,(syncSt s).slast,(syncSt s).floors):=by
 unfold spec_StoreSync.f syncSt
 refine Ev.bind (spec_StoreOk_ev hl hz) ?_
 cases hk:stOk s
 ·exact Ev.now _
 refine Ev.congr (f:=fun _=>some (s.now,s.now,s.last,s.last,s.floors)) (fun k=>?_) (Ev.now _)
 rw [if_pos rfl,spec_l5Copy_eq hs]
 obtain ⟨g0,g1,g2,g3,g4⟩:=hs
 simp only [Option.bind_some,List.length_nil,Nat.zero_add,List.nil_append]
 rw [if_pos (by omega),if_pos (by omega)]
theorem impl_StoreSync_ev (hz:Sized s) (hs:Small s):Ev (fun k=>impl_StoreSync.f k s.now s.sure s.last s.slast s.floors) ((syncSt s).now,(syncSt s).sure,(syncSt s).last,(syncSt s).slast,(syncSt s).floors):=by
 unfold impl_StoreSync.f syncSt
 refine Ev.bind (impl_StoreOk_ev hz) ?_
 cases hk:stOk s
 ·exact Ev.now _
 refine Ev.congr (f:=fun _=>some (s.now,s.now,s.last,s.last,s.floors)) (fun k=>?_) (Ev.now _)
 rw [if_pos rfl,impl_again_eq hs,Option.bind_some,clone_strs hs.1,Option.bind_some,clone_ints hs.2.2.1]
 rfl
theorem spec_StoreFall_ev (hl:s.now.length≤9223372036854775807∧s.sure.length≤9223372036854775807) (hz:Sized s) (hs:Small s):Ev (fun k=>spec_StoreFall.f k s.now s.sure s.last s.slast s.floors) ((fallSt s).now,(fallSt s).sure,(fallSt s).last,(fallSt s).slast,(fallSt s).floors):=by
 unfold spec_StoreFall.f fallSt
 refine Ev.bind (spec_StoreOk_ev hl hz) ?_
 cases hk:stOk s
 ·exact Ev.now _
 refine Ev.congr (f:=fun _=>some (s.sure,s.sure,s.slast,s.slast,s.floors)) (fun k=>?_) (Ev.now _)
 rw [if_pos rfl,spec_l5Copy_eq hs]
 obtain ⟨g0,g1,g2,g3,g4⟩:=hs
 simp only [Option.bind_some,List.length_nil,Nat.zero_add,List.nil_append]
 rw [if_pos (by omega),if_pos (by omega)]
theorem impl_StoreFall_ev (hz:Sized s) (hs:Small s):Ev (fun k=>impl_StoreFall.f k s.now s.sure s.last s.slast s.floors) ((fallSt s).now,(fallSt s).sure,(fallSt s).last,(fallSt s).slast,(fallSt s).floors):=by
 unfold impl_StoreFall.f fallSt
 refine Ev.bind (impl_StoreOk_ev hz) ?_
 cases hk:stOk s
 ·exact Ev.now _
 refine Ev.congr (f:=fun _=>some (s.sure,s.sure,s.slast,s.slast,s.floors)) (fun k=>?_) (Ev.now _)
 rw [if_pos rfl,impl_again_eq hs,Option.bind_some,clone_strs hs.2.1,Option.bind_some,clone_ints hs.2.2.2.1]
 rfl
variable {w:World} {v:Value} {t:St}
theorem spec_StoreNew_c (ht:stNew=t):Calls Try.prog 29 #[] w fun e w'=>∃ u,e = .returned u∧StR w' w.heap.size w'.heap.size u t∧Below w.heap.size w w':=by
 subst ht
 refine (spec_StoreNew.calls stNew.now stNew.sure stNew.last stNew.slast stNew.floors w (by unfold spec_StoreNew.f;rw [if_pos (by decide),if_pos (by decide)];rfl)).mono ?_
 rintro e w' ⟨v0,v1,v2,v3,v4,he,r0,r1,r2,r3,r4,hb⟩
 exact ⟨_,he,StR.mk r0 r1 r2 r3 r4,hb⟩
theorem spec_StoreSync_c (hv:StC w v s) (hz:Sized s) (hs:Small s) (ht:syncSt s=t):Calls Try.prog 36 #[v] w fun e w'=>∃ u,e = .returned u∧StR w' w.heap.size w'.heap.size u t∧Below w.heap.size w w':=by
 obtain ⟨k,hk⟩:=(spec_StoreSync_ev ⟨hv.lens.1,hv.lens.2.1⟩ hz hs).rounds
 obtain ⟨A0,c0,A1,c1,A2,c2,A3,c3,A4,c4,rfl,g0,g1,g2,g3,g4⟩:=hv
 rw [ht] at hk
 refine (spec_StoreSync.calls k A0 c0 s.now A1 c1 s.sure A2 c2 s.last A3 c3 s.slast A4 c4 s.floors _ _ _ _ _ w g0.1 g0.2 g1.1 g1.2 g2.1 g2.2 g3.1 g3.2 g4.1 g4.2 hk).mono ?_
 rintro e w' ⟨v0,v1,v2,v3,v4,he,r0,r1,r2,r3,r4,hb⟩
 exact ⟨_,he,StR.mk r0 r1 r2 r3 r4,hb⟩
theorem impl_StoreSync_c (hv:StC w v s) (hz:Sized s) (hs:Small s) (ht:syncSt s=t):Calls Try.prog 21 #[v] w fun e w'=>∃ u,e = .returned u∧StR w' w.heap.size w'.heap.size u t∧Below w.heap.size w w':=by
 obtain ⟨k,hk⟩:=(impl_StoreSync_ev hz hs).rounds
 obtain ⟨A0,c0,A1,c1,A2,c2,A3,c3,A4,c4,rfl,g0,g1,g2,g3,g4⟩:=hv
 rw [ht] at hk
 refine (impl_StoreSync.calls k A0 c0 s.now A1 c1 s.sure A2 c2 s.last A3 c3 s.slast A4 c4 s.floors _ _ _ _ _ w g0.1 g0.2 g1.1 g1.2 g2.1 g2.2 g3.1 g3.2 g4.1 g4.2 hk).mono ?_
 rintro e w' ⟨v0,v1,v2,v3,v4,he,r0,r1,r2,r3,r4,hb⟩
 exact ⟨_,he,StR.mk r0 r1 r2 r3 r4,hb⟩
theorem spec_StoreFall_c (hv:StC w v s) (hz:Sized s) (hs:Small s) (ht:fallSt s=t):Calls Try.prog 35 #[v] w fun e w'=>∃ u,e = .returned u∧StR w' w.heap.size w'.heap.size u t∧Below w.heap.size w w':=by
 obtain ⟨k,hk⟩:=(spec_StoreFall_ev ⟨hv.lens.1,hv.lens.2.1⟩ hz hs).rounds
 obtain ⟨A0,c0,A1,c1,A2,c2,A3,c3,A4,c4,rfl,g0,g1,g2,g3,g4⟩:=hv
 rw [ht] at hk
 refine (spec_StoreFall.calls k A0 c0 s.now A1 c1 s.sure A2 c2 s.last A3 c3 s.slast A4 c4 s.floors _ _ _ _ _ w g0.1 g0.2 g1.1 g1.2 g2.1 g2.2 g3.1 g3.2 g4.1 g4.2 hk).mono ?_
 rintro e w' ⟨v0,v1,v2,v3,v4,he,r0,r1,r2,r3,r4,hb⟩
 exact ⟨_,he,StR.mk r0 r1 r2 r3 r4,hb⟩
theorem impl_StoreFall_c (hv:StC w v s) (hz:Sized s) (hs:Small s) (ht:fallSt s=t):Calls Try.prog 20 #[v] w fun e w'=>∃ u,e = .returned u∧StR w' w.heap.size w'.heap.size u t∧Below w.heap.size w w':=by
 obtain ⟨k,hk⟩:=(impl_StoreFall_ev hz hs).rounds
 obtain ⟨A0,c0,A1,c1,A2,c2,A3,c3,A4,c4,rfl,g0,g1,g2,g3,g4⟩:=hv
 rw [ht] at hk
 refine (impl_StoreFall.calls k A0 c0 s.now A1 c1 s.sure A2 c2 s.last A3 c3 s.slast A4 c4 s.floors _ _ _ _ _ w g0.1 g0.2 g1.1 g1.2 g2.1 g2.2 g3.1 g3.2 g4.1 g4.2 hk).mono ?_
 rintro e w' ⟨v0,v1,v2,v3,v4,he,r0,r1,r2,r3,r4,hb⟩
 exact ⟨_,he,StR.mk r0 r1 r2 r3 r4,hb⟩
end
end Go.Proofs.Ytmekkapacbdbeaa.P
namespace Go.Proofs.Ytmekkapacbdbeaa.P
open Go.RowKit Go.Proofs.YtmekkapacbdbeaaW.PrintWords Go.Proofs.YtmekkapacbdbeaaW.PrintLast Go.Proofs.YtmekkapacbdbeaaW.PrintMore
attribute [local go_sem] max2_int min2_int max_two min_two max_three min_three max_four min_four 
def spec_l4Who.f (a0:Int):Option (Bool):=if a0 ≥ 0 then (some (decide (a0<3))) else (some false)
theorem spec_l4Who.calls (a0:Int) (r:Bool) (w:World) (h:spec_l4Who.f a0=some r) :
  Calls Try.prog 71 #[.int .i64 a0] w fun e w'=>e = .returned (.bool r)∧Drawn0 w w':=by
 have H:(if a0 ≥ 0 then (some (decide (a0<3))) else (some false))=some r:=h
 clear h
 by_cases c2:a0 ≥ 0
 ·rw [if_pos c2] at H
  have c2b0:decide (0≤a0)=true:=decide_eq_true c2
  clear c2
  obtain rfl:=Option.some.inj H
  go_enter Try.func71,Try.ntmps71
  go_wp2
  go_ret
  exact ⟨by first|rfl|(simp;done)|(simp [*];done),by repeat (first|exact Drawn0.refl _|apply Drawn0.step)⟩
 ·rw [if_neg c2] at H
  have c2b0:decide (0≤a0)=false:=decide_eq_false c2
  clear c2
  obtain rfl:=Option.some.inj H
  go_enter Try.func71,Try.ntmps71
  go_wp2
  go_ret
  exact ⟨by first|rfl|(simp;done)|(simp [*];done),by repeat (first|exact Drawn0.refl _|apply Drawn0.step)⟩
def impl_client.f (a0:Int):Option (Bool):=if a0 ≥ 0 then (some (decide (a0<3))) else (some false)
theorem impl_client.calls (a0:Int) (r:Bool) (w:World) (h:impl_client.f a0=some r) :
  Calls Try.prog 58 #[.int .i64 a0] w fun e w'=>e = .returned (.bool r)∧Drawn0 w w':=by
 have H:(if a0 ≥ 0 then (some (decide (a0<3))) else (some false))=some r:=h
 clear h
 by_cases c2:a0 ≥ 0
 ·rw [if_pos c2] at H
  have c2b0:decide (0≤a0)=true:=decide_eq_true c2
  clear c2
  obtain rfl:=Option.some.inj H
  go_enter Try.func58,Try.ntmps58
  go_wp2
  go_ret
  exact ⟨by first|rfl|(simp;done)|(simp [*];done),by repeat (first|exact Drawn0.refl _|apply Drawn0.step)⟩
 ·rw [if_neg c2] at H
  have c2b0:decide (0≤a0)=false:=decide_eq_false c2
  clear c2
  obtain rfl:=Option.some.inj H
  go_enter Try.func58,Try.ntmps58
  go_wp2
  go_ret
  exact ⟨by first|rfl|(simp;done)|(simp [*];done),by repeat (first|exact Drawn0.refl _|apply Drawn0.step)⟩
def spec_l1Max.f (a0:Int) (a1:Int):Option (Int):=if a0 > a1 then (some a0) else (some a1)
theorem spec_l1Max.calls (a0:Int) (a1:Int) (r:Int) (w:World) (h:spec_l1Max.f a0 a1=some r) :
  Calls Try.prog 72 #[.int .i64 a0,.int .i64 a1] w fun e w'=>e = .returned (.int .i64 r)∧Drawn0 w w':=by
 have H:(if a0 > a1 then (some a0) else (some a1))=some r:=h
 clear h
 by_cases c3:a0 > a1
 ·rw [if_pos c3] at H
  have c3b0:decide (a1<a0)=true:=decide_eq_true c3
  clear c3
  obtain rfl:=Option.some.inj H
  go_enter Try.func72,Try.ntmps72
  go_wp2
  go_ret
  exact ⟨by first|rfl|(simp;done)|(simp [*];done),by repeat (first|exact Drawn0.refl _|apply Drawn0.step)⟩
 ·rw [if_neg c3] at H
  have c3b0:decide (a1<a0)=false:=decide_eq_false c3
  clear c3
  obtain rfl:=Option.some.inj H
  go_enter Try.func72,Try.ntmps72
  go_wp2
  go_ret
  exact ⟨by first|rfl|(simp;done)|(simp [*];done),by repeat (first|exact Drawn0.refl _|apply Drawn0.step)⟩
end Go.Proofs.Ytmekkapacbdbeaa.P
namespace Go.Proofs.Ytmekkapacbdbeaa.P
open Go.RowKit Go.Proofs.YtmekkapacbdbeaaW.PrintWords Go.Proofs.YtmekkapacbdbeaaW.PrintLast Go.Proofs.YtmekkapacbdbeaaW.PrintMore
def whoOk (a:Int):Bool:=decide (0≤a) && decide (a<3)
section
variable {w:World} {v:Value} {s:St}
theorem impl_again_c (hv:StC w v s) (hs:Small s):Calls Try.prog 49 #[v] w fun e w'=>∃ u,e = .returned u∧StR w' w.heap.size w'.heap.size u s∧Below w.heap.size w w':=by
 obtain ⟨A0,c0,A1,c1,A2,c2,A3,c3,A4,c4,rfl,g0,g1,g2,g3,g4⟩:=hv
 refine (impl_again.calls A0 c0 s.now A1 c1 s.sure A2 c2 s.last A3 c3 s.slast A4 c4 s.floors _ _ _ _ _ w g0.1 g0.2 g1.1 g1.2 g2.1 g2.2 g3.1 g3.2 g4.1 g4.2 (impl_again_eq hs)).mono ?_
 rintro e w' ⟨v0,v1,v2,v3,v4,he,r0,r1,r2,r3,r4,hb⟩
 exact ⟨_,he,StR.mk r0 r1 r2 r3 r4,hb⟩
theorem spec_l5Copy_c (hv:StC w v s) (hs:Small s):Calls Try.prog 50 #[v] w fun e w'=>∃ u,e = .returned u∧StR w' w.heap.size w'.heap.size u s∧Below w.heap.size w w':=by
 obtain ⟨A0,c0,A1,c1,A2,c2,A3,c3,A4,c4,rfl,g0,g1,g2,g3,g4⟩:=hv
 refine (spec_l5Copy.calls A0 c0 s.now A1 c1 s.sure A2 c2 s.last A3 c3 s.slast A4 c4 s.floors _ _ _ _ _ w g0.1 g0.2 g1.1 g1.2 g2.1 g2.2 g3.1 g3.2 g4.1 g4.2 (spec_l5Copy_eq hs)).mono ?_
 rintro e w' ⟨v0,v1,v2,v3,v4,he,r0,r1,r2,r3,r4,hb⟩
 exact ⟨_,he,StR.mk r0 r1 r2 r3 r4,hb⟩
theorem who_eq (a:Int):impl_client.f a=some (whoOk a):=by
 unfold impl_client.f whoOk
 by_cases h:a ≥ 0
 ·rw [if_pos h,decide_eq_true (show 0≤a from h),Bool.true_and]
 ·rw [if_neg h,decide_eq_false (show ¬ 0≤a from h),Bool.false_and]
theorem spec_who_c {a:Int} {b:Bool} (h:whoOk a=b):Calls Try.prog 71 #[.int .i64 a] w fun e w'=>e = .returned (.bool b)∧Below w.heap.size w w' :=
 (spec_l4Who.calls a b w (h ▸ who_eq a)).mono fun _ _ ⟨e,h⟩=>⟨e,h.below⟩
theorem spec_l1Max_c (x y:Int) {m:Int} (hm:(if x<y then y else x)=m):Calls Try.prog 72 #[.int .i64 x,.int .i64 y] w fun e w'=>e = .returned (.int .i64 m)∧Below w.heap.size w w':=by
 refine (spec_l1Max.calls x y m w ?_).mono fun _ _ ⟨e,h⟩=>⟨e,h.below⟩
 unfold spec_l1Max.f
 rw [← hm]
 by_cases h:x > y
 ·rw [if_pos h,if_neg (by omega)]
 ·rw [if_neg h]
  by_cases h2:x<y
  ·rw [if_pos h2]
  ·rw [if_neg h2]
   congr 1
   omega
end
end Go.Proofs.Ytmekkapacbdbeaa.P
namespace Go.Proofs.Ytmekkapacbdbeaa.P
open Go.RowKit Go.Proofs.YtmekkapacbdbeaaW.PrintWords Go.Proofs.YtmekkapacbdbeaaW.PrintLast Go.Proofs.YtmekkapacbdbeaaW.PrintMore
theorem l5Bent_c {w0 w:World} {g m:Nat} (hB:Below w0.heap.size w0 w) (hR:Rd w0 w g (m + 2)) {v:Value} {s:St} {lo hi:Nat} (hv:StI w lo hi v s) (hf:g<lo∨hi≤g) (hhi:hi≤w.heap.size) (hs:Small s) (hz:Sized s) :
  Calls Try.prog 46 #[.pointer (some ⟨g,0,none⟩),v] w fun e w'=>∃ u t,e = .returned u∧StI w' w.heap.size w'.heap.size u t∧Small t∧Sized t∧Rd w0 w' g m∧Below w0.heap.size w0 w'∧Kept w w' (fun k=>g≤k∧k<g + 1):=by
 have HB0:=Ak hB
 have HG:=Ak hR.lt
 have HG0:=Ak hR.ge
 have HRD:=Ak hR
 have KP0:=Ak (Kept.refl w (fun k=>g≤k∧k<g + 1))
 have HT0:=Ak (Nat.le_refl w.heap.size)
 clear hB hR
 have HV0:=Ak hv
 have HF:=Ak hf
 have HHI:=Ak hhi
 obtain ⟨A0_0,c0_0,A0_1,c0_1,A0_2,c0_2,A0_3,c0_3,A0_4,c0_4,rfl,_⟩:=hv.toC
 clear hv hf hhi
 have HS0:=Ak hs
 have HZ0:=Ak hz
 clear hs hz
 have hu26:=Try.underlying26
 go_enter Try.func46,Try.ntmps46
 have Z1:=Ak (And.intro HB0.out.size (And.intro HG.out HG0.out))
 have Z2:=Ak (And.intro Z1.out (And.intro HF.out HHI.out))
 go_wp2_with (first|((with_reducible refine gate_dst (N:=3) rfl ?_);refine ev_box ?hg (N:=3) ?hd (cs:=#[.slice A0_0 s.now.length c0_0,.slice A0_1 s.sure.length c0_1,.slice A0_2 s.last.length c0_2,.slice A0_3 s.slast.length c0_3,.slice A0_4 s.floors.length c0_4]) (t:=26) ?hr ?_;(case hd=>rfl);(case hg=>rfl);(case hr=>first|(go_simp;done)|(go_simp;rfl));intro g3 W3 HG6 BK4 HB5)|((with_reducible refine gate_dst (N:=4) rfl ?_);refine ev_box ?hg (N:=4) ?hd (cs:=#[.slice none 0 0,.slice none 0 0,.slice none 0 0,.slice none 0 0,.slice none 0 0]) (t:=26) ?hr ?_;(case hd=>rfl);(case hg=>rfl);(case hr=>first|(go_simp;done)|(go_simp;rfl));intro g4 W7 HG10 BK8 HB9)|((with_reducible refine gate_dst (N:=6) rfl ?_);refine ev_load rfl (N:=6) rfl rfl (g:=g3) rfl (cs:=#[.slice A0_0 s.now.length c0_0,.slice A0_1 s.sure.length c0_1,.slice A0_2 s.last.length c0_2,.slice A0_3 s.slast.length c0_3,.slice A0_4 s.floors.length c0_4]) (Bk.below BK4.out HB9.out) hu26 rfl (by kernel_rfl) ?_))
 refine (spec_l5Copy_c (StI.toC (StI.below HV0.out (below_step HB5.out HB9.out))) HS0.out).mono ?_
 rintro e W14 ⟨u11,rfl,hr12,hb15⟩
 have HB16:=Ak hb15
 clear hb15
 have HRs13:=Ak hr12
 obtain ⟨as13_0,ds13_0,as13_1,ds13_1,as13_2,ds13_2,as13_3,ds13_3,as13_4,ds13_4,rfl,_⟩:=hr12.toC
 clear hr12
 go_wp2_with (first|((with_reducible refine gate_dst (N:=5) rfl ?_);refine ev_box ?hg (N:=5) ?hd (cs:=#[.slice none 0 0,.slice none 0 0,.slice none 0 0,.slice none 0 0,.slice none 0 0]) (t:=26) ?hr ?_;(case hd=>rfl);(case hg=>rfl);(case hr=>first|(go_simp;done)|(go_simp;rfl));intro g5 W17 HG20 BK18 HB19)|((with_reducible refine gate_store (t:=26) (p:=5) rfl ?_);refine ev_put (by rfl) rfl rfl (g:=g5) rfl (cs:=#[.slice as13_0 s.now.length ds13_0,.slice as13_1 s.sure.length ds13_1,.slice as13_2 s.last.length ds13_2,.slice as13_3 s.slast.length ds13_3,.slice as13_4 s.floors.length ds13_4]) rfl BK18.out (by kernel_rfl) rfl rfl ?_;intro W21 BK22 HB23 HK24;have z0_:=Z2.out;have z1_:=HT0.out;have z2_:=HB5.out.size;have z3_:=HG6.out;have z4_:=BK4.out.lt;have z5_:=HB9.out.size;have z6_:=HG10.out;have z7_:=BK8.out.lt;have z8_:=HB16.out.size;have z9_:=HB19.out.size;have z10_:=HG20.out;have z11_:=BK18.out.lt;have C25:=Ak (show w.heap.size≤g3∧g3≤g3 + 1 from (by omega));have C26:=Ak (show g3 + 1≤g4∧g4≤g4 + 1 from (by omega));have C27:=Ak (show g4 + 1≤W7.heap.size∧W7.heap.size≤W14.heap.size from (by omega));have C28:=Ak (show W14.heap.size≤g5∧g5≤g5 + 1 from (by omega));have T29:=Ak (show g5 + 1≤W17.heap.size from (by omega));have HB30:=Ak (below_at (below_step HB0.out (below_step (below_step (below_step HB5.out HB9.out) HB16.out) HB19.out)) HB23.out (by show w0.heap.size≤g5;omega));have HK31:=Ak (HK24.out);have KP33:=Ak (kept_new (Kept.below KP0.out (below_step (below_step (below_step HB5.out HB9.out) HB16.out) HB19.out)) HK31.out (by show w.heap.size≤g5;omega));have T32:=Ak (Nat.le_trans T29.out HK31.out.1);have F34:=Ak (StI.kept (StI.below HV0.out (below_step (below_step (below_step HB5.out HB9.out) HB16.out) HB19.out)) HK31.out (fun k_ h_=>(by obtain ⟨h1_,h2_⟩:=h_;omega)));have F35:=Ak (Bk.kept (Bk.below BK4.out (below_step (below_step HB9.out HB16.out) HB19.out)) HK31.out (fun h_=>(by obtain ⟨h1_,h2_⟩:=h_;omega)));have F36:=Ak (Bk.kept (Bk.below BK8.out (below_step HB16.out HB19.out)) HK31.out (fun h_=>(by obtain ⟨h1_,h2_⟩:=h_;omega)));have F37:=Ak (StR.kept (StR.below HRs13.out HB19.out) HK31.out (fun k_ h_=>(by obtain ⟨h1_,h2_⟩:=h_;omega)));have F38:=Ak (BK22.out);have F39:=Ak (Rd.kept (Rd.below HRD.out (below_step (below_step (below_step HB5.out HB9.out) HB16.out) HB19.out)) HK31.out (fun h_=>(by obtain ⟨h1_,h2_⟩:=h_;omega)));clear z0_ z1_ z2_ z3_ z4_ z5_ z6_ z7_ z8_ z9_ z10_ z11_;have Z40:=Ak (And.intro Z2.out (And.intro C25.out (And.intro C26.out (And.intro C27.out C28.out))))))
 refine (pick_c (m:=m + 1) F39.out HB30.out (by omega)).mono ?_
 rintro e W47 ⟨r41,rfl,h42,h43,hR44,hb48,hk45⟩
 have z0_:=Z40.out
 have z1_:=T32.out
 have T50:=Ak (show g5 + 1≤W21.heap.size from (by omega))
 have N51:=Ak (show ∀ k_,(g≤k_∧k_<g + 1)→k_<lo∨hi≤k_ from (by intro k_ h_;omega))
 have N52:=Ak (show ¬ (g≤g3∧g3<g + 1) from (by omega))
 have N53:=Ak (show ¬ (g≤g4∧g4<g + 1) from (by omega))
 have N54:=Ak (show ∀ k_,(g≤k_∧k_<g + 1)→k_<W7.heap.size∨W14.heap.size≤k_ from (by intro k_ h_;omega))
 have N55:=Ak (show ¬ (g≤g5∧g5<g + 1) from (by omega))
 have HB56:=Ak (hb48)
 have HK57:=Ak (hk45)
 have KP59:=Ak (Kept.then_ KP33.out HK57.out (fun _ h_=>Or.inl h_))
 have T58:=Ak (Nat.le_trans T50.out HK57.out.1)
 have F60:=Ak (StI.kept F34.out HK57.out N51.out)
 have F61:=Ak (Bk.kept F35.out HK57.out N52.out)
 have F62:=Ak (Bk.kept F36.out HK57.out N53.out)
 have F63:=Ak (StR.kept F37.out HK57.out N54.out)
 have F64:=Ak (Bk.kept F38.out HK57.out N55.out)
 have F65:=Ak (hR44)
 clear z0_ z1_ hb48 hk45 hR44
 have HP46:=Ak (And.intro h42 h43)
 clear h42 h43
 go_upto_block 0 with (fail)
 go_cut [] (fun W66=>∃ (b0_:Option Addr) (n0_:Nat) (e0_:Nat) (b1_:Option Addr) (n1_:Nat) (e1_:Nat) (b2_:Option Addr) (n2_:Nat) (e2_:Nat) (b3_:Option Addr) (n3_:Nat) (e3_:Nat) (b4_:Option Addr) (n4_:Nat) (e4_:Nat) (t_:St),Aside0 (Bk W66 g3 #[.slice A0_0 s.now.length c0_0,.slice A0_1 s.sure.length c0_1,.slice A0_2 s.last.length c0_2,.slice A0_3 s.slast.length c0_3,.slice A0_4 s.floors.length c0_4] 26)∧Aside0 (Bk W66 g4 #[.slice none 0 0,.slice none 0 0,.slice none 0 0,.slice none 0 0,.slice none 0 0] 26)∧Aside0 (Bk W66 g5 #[.slice b0_ n0_ e0_,.slice b1_ n1_ e1_,.slice b2_ n2_ e2_,.slice b3_ n3_ e3_,.slice b4_ n4_ e4_] 26)∧Aside0 (StI W66 lo hi (.agg #[.slice A0_0 s.now.length c0_0,.slice A0_1 s.sure.length c0_1,.slice A0_2 s.last.length c0_2,.slice A0_3 s.slast.length c0_3,.slice A0_4 s.floors.length c0_4]) (s))∧Aside0 (StI W66 W7.heap.size W14.heap.size (.agg #[.slice b0_ n0_ e0_,.slice b1_ n1_ e1_,.slice b2_ n2_ e2_,.slice b3_ n3_ e3_,.slice b4_ n4_ e4_]) (t_))∧Aside0 (Rd w0 W66 g (m + 0))∧Aside0 (Below w0.heap.size w0 W66)∧Aside0 (Kept w W66 (fun k=>g≤k∧k<g + 1))∧Aside0 (g5 + 1≤W66.heap.size)∧Aside0 (Small t_)∧Aside0 (Sized t_))
 case first =>
  go_upto_if 10 with (fail)
  by_cases c67:r41=0
  ·have d68:(r41 == 0)=true:=beq_iff_eq.mpr c67
   (first|rw [d68]|(simp only [i64_w,i32_w];rw [d68])|skip)
   have K69:=Ak c67
   clear c67
   go_upto_if 15 with (first|((with_reducible refine gate_dst (N:=13) rfl ?_);refine ev_val (by rfl) (v:=.slice as13_0 s.now.length ds13_0) ?hr ?_;(case hr=>have hc_:W47.cell? ⟨g5,0,none⟩=some (.slice as13_0 s.now.length ds13_0):=(Bk.cell F64.out 0).trans rfl;first|(go_simp;done)|(go_simp;rfl))))
   by_cases c70:(s.now.length:Int) > 0
   ·have d71:decide (0<s.now.length)=true:=decide_eq_true (by omega)
    (first|rw [d71]|(simp only [i64_w,i32_w];rw [d71])|skip)
    have K72:=Ak c70
    clear c70
    go_upto_region 5 with (fail)
    have HC1:=Ak (show 1≤s.now.length from (by have i0_:=HP46.out;have i1_:=K69.out;have i2_:=K72.out;omega))
    obtain ⟨i0_,hi0_,_,hsz_,_⟩:=info_parts info9
    have hcut_:=cut_from (P:=Try.prog) 23 9 .i64 Try.underlying23 hi0_ 1 hsz_ as13_0 s.now.length ds13_0 1 (by omega) (by have:=HC1.out;omega)
    clear hi0_ hsz_
    obtain ⟨B_,hB_⟩:∃ B_,B_=(if ds13_0=(1:Int).toNat then as13_0 else (as13_0:Option Addr).map (·.add ((1:Int).toNat * 1))):=⟨_,rfl⟩
    obtain ⟨D_,hD_⟩:∃ D_,D_=ds13_0 - (1:Int).toNat:=⟨_,rfl⟩
    rw [← hB_,← hD_] at hcut_
    have HBe:=Ak hB_
    have HDe:=Ak hD_
    clear hB_ hD_
    try go_wp2_with (first|((with_reducible refine gate_dst (N:=17) rfl ?_);refine ev_val (by rfl) (v:=.slice as13_0 s.now.length ds13_0) ?hr ?_;(case hr=>have hc_:W47.cell? ⟨g5,0,none⟩=some (.slice as13_0 s.now.length ds13_0):=(Bk.cell F64.out 0).trans rfl;first|(go_simp;done)|(go_simp;rfl)))|((with_reducible refine gate_store (t:=23) (p:=19) rfl ?_);refine ev_setcell (by rfl) rfl (g:=g5) (i:=0) (v:=.slice B_ (s.now.length - 1) D_) ?hr ?_;(case hr=>have hc_:W47.cell? ⟨g5,0,none⟩=some (.slice as13_0 s.now.length ds13_0):=(Bk.cell F64.out 0).trans rfl;have hf_:=Bk.hot F64.out 0;first|(go_simp;done)|(go_simp;rfl));intro W78 e79;have z0_:=Z40.out;have z1_:=T58.out;have T80:=Ak (show g5 + 1≤W47.heap.size from (by omega));have HB81:=Ak (below_at HB56.out (below_setcell e79) (by show w0.heap.size≤g5;omega));have HK82:=Ak (kept_set e79);have KP84:=Ak (kept_new KP59.out HK82.out (by show w.heap.size≤g5;omega));have T83:=Ak (Nat.le_trans T80.out HK82.out.1);have F85:=Ak (StI.kept F60.out HK82.out (fun k_ h_=>(by obtain ⟨h1_,h2_⟩:=h_;omega)));have F86:=Ak (Bk.kept F61.out HK82.out (fun h_=>(by obtain ⟨h1_,h2_⟩:=h_;omega)));have F87:=Ak (Bk.kept F62.out HK82.out (fun h_=>(by obtain ⟨h1_,h2_⟩:=h_;omega)));have F88:=Ak ((show StI W78 W7.heap.size W14.heap.size (.agg #[.slice B_ (s.now.length - 1) D_,.slice as13_1 s.sure.length ds13_1,.slice as13_2 s.last.length ds13_2,.slice as13_3 s.slast.length ds13_3,.slice as13_4 s.floors.length ds13_4]) { s with now:=s.now.drop 1 } from by rw [HBe.out,HDe.out];exact StI.drop (StR.toI (StR.kept F63.out HK82.out (fun k_ h_=>(by obtain ⟨h1_,h2_⟩:=h_;omega)))) HC1.out));have F89:=Ak (Bk.put F64.out e79 rfl);have F90:=Ak (Rd.kept F65.out HK82.out (fun h_=>(by obtain ⟨h1_,h2_⟩:=h_;omega)));clear z0_ z1_ e79))
    go_meet
    case rel=>exact ⟨_,_,_,_,_,_,_,_,_,_,_,_,_,_,_,{ s with now:=s.now.drop 1 },⟨F86.out⟩,⟨F87.out⟩,⟨F89.out⟩,⟨F85.out⟩,⟨F88.out⟩,⟨Rd.less F90.out (by omega)⟩,⟨HB81.out⟩,⟨KP84.out⟩,⟨(by show g5 + 1≤W78.heap.size;have z0_:=Z40.out;have z1_:=T83.out;omega)⟩,⟨(small_now HS0.out)⟩,⟨(sized_now HZ0.out)⟩⟩
   ·have d71:decide (0<s.now.length)=false:=decide_eq_false (by omega)
    (first|rw [d71]|(simp only [i64_w,i32_w];rw [d71])|skip)
    have K72:=Ak c70
    clear c70
    try go_wp2
    go_meet
    case rel=>exact ⟨_,_,_,_,_,_,_,_,_,_,_,_,_,_,_,s,⟨F61.out⟩,⟨F62.out⟩,⟨F64.out⟩,⟨F60.out⟩,⟨StR.toI F63.out⟩,⟨Rd.less F65.out (by omega)⟩,⟨HB56.out⟩,⟨KP59.out⟩,⟨(by show g5 + 1≤W47.heap.size;have z0_:=Z40.out;have z1_:=T58.out;omega)⟩,⟨HS0.out⟩,⟨HZ0.out⟩⟩
  ·have d68:(r41 == 0)=false:=beq_eq_false_iff_ne.mpr c67
   (first|rw [d68]|(simp only [i64_w,i32_w];rw [d68])|skip)
   have K69:=Ak c67
   clear c67
   go_upto_if 20 with (fail)
   by_cases c91:r41=1
   ·have d92:(r41 == 1)=true:=beq_iff_eq.mpr c91
    (first|rw [d92]|(simp only [i64_w,i32_w];rw [d92])|skip)
    have K93:=Ak c91
    clear c91
    go_upto_if 25 with (first|((with_reducible refine gate_dst (N:=23) rfl ?_);refine ev_val (by rfl) (v:=.slice as13_1 s.sure.length ds13_1) ?hr ?_;(case hr=>have hc_:W47.cell? ⟨g5,1,none⟩=some (.slice as13_1 s.sure.length ds13_1):=(Bk.cell F64.out 1).trans rfl;first|(go_simp;done)|(go_simp;rfl))))
    by_cases c94:(s.sure.length:Int) > 0
    ·have d95:decide (0<s.sure.length)=true:=decide_eq_true (by omega)
     (first|rw [d95]|(simp only [i64_w,i32_w];rw [d95])|skip)
     have K96:=Ak c94
     clear c94
     go_upto_region 8 with (fail)
     have HI97:=Ak (show (0:Int)≤(0:Int)∧(0:Int)<((s.sure).length:Int) from (by have i0_:=HP46.out;have i1_:=K69.out;have i2_:=K93.out;have i3_:=K96.out;exact ⟨by omega,by omega⟩))
     obtain ⟨g98,rfl⟩:=StR.sure_form F63.out HI97.out.1 HI97.out.2
     have qHI97:(0<(s.sure).length)=True:=eq_true (by have:=HI97.out.2;omega)
     have GT99:=Ak (And.intro (StR.sure_cell F63.out HI97.out.1 HI97.out.2).1 (StR.sure_cell F63.out HI97.out.1 HI97.out.2).2.1)
     try go_wp2_with (first|((with_reducible refine gate_dst (N:=27) rfl ?_);refine ev_val (by rfl) (v:=.slice (some ⟨g98,0,none⟩) s.sure.length ds13_1) ?hr ?_;(case hr=>have hc_:W47.cell? ⟨g5,1,none⟩=some (.slice (some ⟨g98,0,none⟩) s.sure.length ds13_1):=(Bk.cell F64.out 1).trans rfl;first|(go_simp;done)|(go_simp;rfl)))|((with_reducible refine gate_store (t:=9) (p:=28) rfl ?_);refine ev_setcell (by rfl) rfl (g:=g98) (i:=(0:Int).toNat) (v:=.string ⟨#[65]⟩) ?hr ?_;(case hr=>have hc_:=(show W47.cell? ⟨g98,0,none⟩=some (.string (rdOf ByteArray.empty s.sure (0:Int))) from (StR.sure_cell F63.out HI97.out.1 HI97.out.2).2.2.1);have hf_:=(show W47.frozen? ⟨g98,0,none⟩=false from (StR.sure_cell F63.out HI97.out.1 HI97.out.2).2.2.2.1);first|(go_simp;done)|(go_simp;rfl));intro W100 e101;have z0_:=Z40.out;have z1_:=T58.out;have z2_:=GT99.out;have T102:=Ak (show g5 + 1≤W47.heap.size from (by omega));have HB103:=Ak (below_at HB56.out (below_setcell e101) (by show w0.heap.size≤g98;omega));have HK104:=Ak (kept_set e101);have KP106:=Ak (kept_new KP59.out HK104.out (by show w.heap.size≤g98;omega));have T105:=Ak (Nat.le_trans T102.out HK104.out.1);have F107:=Ak (StI.kept F60.out HK104.out (fun k_ h_=>(by obtain ⟨h1_,h2_⟩:=h_;omega)));have F108:=Ak (Bk.kept F61.out HK104.out (fun h_=>(by obtain ⟨h1_,h2_⟩:=h_;omega)));have F109:=Ak (Bk.kept F62.out HK104.out (fun h_=>(by obtain ⟨h1_,h2_⟩:=h_;omega)));have F110:=Ak ((StR.sure_cell F63.out HI97.out.1 HI97.out.2).2.2.2.2 (⟨#[65]⟩) _ e101);have F111:=Ak (Bk.kept F64.out HK104.out (fun h_=>(by obtain ⟨h1_,h2_⟩:=h_;omega)));have F112:=Ak (Rd.kept F65.out HK104.out (fun h_=>(by obtain ⟨h1_,h2_⟩:=h_;omega)));clear z0_ z1_ z2_ e101;have Z113:=Ak (And.intro Z40.out GT99.out)))
     go_meet
     case rel=>exact ⟨_,_,_,_,_,_,_,_,_,_,_,_,_,_,_,{ s with sure:=s.sure.set (0:Int).toNat (⟨#[65]⟩) },⟨F108.out⟩,⟨F109.out⟩,⟨F111.out⟩,⟨F107.out⟩,⟨StR.toI F110.out⟩,⟨Rd.less F112.out (by omega)⟩,⟨HB103.out⟩,⟨KP106.out⟩,⟨(by show g5 + 1≤W100.heap.size;have z0_:=Z113.out;have z1_:=T105.out;omega)⟩,⟨(small_sure HS0.out)⟩,⟨(sized_sure (by decide) HZ0.out)⟩⟩
    ·have d95:decide (0<s.sure.length)=false:=decide_eq_false (by omega)
     (first|rw [d95]|(simp only [i64_w,i32_w];rw [d95])|skip)
     have K96:=Ak c94
     clear c94
     try go_wp2
     go_meet
     case rel=>exact ⟨_,_,_,_,_,_,_,_,_,_,_,_,_,_,_,s,⟨F61.out⟩,⟨F62.out⟩,⟨F64.out⟩,⟨F60.out⟩,⟨StR.toI F63.out⟩,⟨Rd.less F65.out (by omega)⟩,⟨HB56.out⟩,⟨KP59.out⟩,⟨(by show g5 + 1≤W47.heap.size;have z0_:=Z40.out;have z1_:=T58.out;omega)⟩,⟨HS0.out⟩,⟨HZ0.out⟩⟩
   ·have d92:(r41 == 1)=false:=beq_eq_false_iff_ne.mpr c91
    (first|rw [d92]|(simp only [i64_w,i32_w];rw [d92])|skip)
    have K93:=Ak c91
    clear c91
    go_upto_if 29 with (fail)
    by_cases c114:r41=2
    ·have d115:(r41 == 2)=true:=beq_iff_eq.mpr c114
     (first|rw [d115]|(simp only [i64_w,i32_w];rw [d115])|skip)
     have K116:=Ak c114
     clear c114
     go_upto_if 34 with (first|((with_reducible refine gate_dst (N:=32) rfl ?_);refine ev_val (by rfl) (v:=.slice as13_2 s.last.length ds13_2) ?hr ?_;(case hr=>have hc_:W47.cell? ⟨g5,2,none⟩=some (.slice as13_2 s.last.length ds13_2):=(Bk.cell F64.out 2).trans rfl;first|(go_simp;done)|(go_simp;rfl))))
     by_cases c117:(s.last.length:Int) > 0
     ·have d118:decide (0<s.last.length)=true:=decide_eq_true (by omega)
      (first|rw [d118]|(simp only [i64_w,i32_w];rw [d118])|skip)
      have K119:=Ak c117
      clear c117
      go_upto_region 11 with (fail)
      have HI120:=Ak (show (0:Int)≤(0:Int)∧(0:Int)<((s.last).length:Int) from (by have i0_:=HP46.out;have i1_:=K69.out;have i2_:=K93.out;have i3_:=K116.out;have i4_:=K119.out;exact ⟨by omega,by omega⟩))
      obtain ⟨g121,rfl⟩:=StR.last_form F63.out HI120.out.1 HI120.out.2
      have qHI120:(0<(s.last).length)=True:=eq_true (by have:=HI120.out.2;omega)
      have GT122:=Ak (And.intro (StR.last_cell F63.out HI120.out.1 HI120.out.2).1 (StR.last_cell F63.out HI120.out.1 HI120.out.2).2.1)
      go_wp2_with (fail)
      refine start_ (n:=7) (S:=fun w'=>Bk w' g5 #[.slice as13_0 s.now.length ds13_0,.slice as13_1 s.sure.length ds13_1,.slice (some ⟨g121,0,none⟩) s.last.length ds13_2,.slice as13_3 s.slast.length ds13_3,.slice as13_4 s.floors.length ds13_4] 26) (ds:=[6]) #[false,false,false,false,false,false,false] (by kernel_rfl) rfl rfl (show Bk W47 g5 #[.slice as13_0 s.now.length ds13_0,.slice as13_1 s.sure.length ds13_1,.slice (some ⟨g121,0,none⟩) s.last.length ds13_2,.slice as13_3 s.slast.length ds13_3,.slice as13_4 s.floors.length ds13_4] 26 from F64.out) (fun hHeld=>?_)
      clear hHeld
      refine world_at (w:=W47) (below_drew0 _) (fun W123 HB124=>?_)
      refine pure_ (i:=0) (N:=some 35) (v:=?_) (a':=?_) #[T0,F0,F0,F0,F0,F0,F0] rfl rfl (by kernel_rfl) (fun _ _ _ h=>h) (Or.inl ⟨by rfl,?_⟩) ?_ ?_
      rotate_left
      ·intro w'
       go_simp
       with_reducible rfl
      rotate_left
      ·simp only [Act.put,zzA,zzB,zzC,i64_w,i32_w]
       rfl
      refine take_ (i:=1) (N:=some 36) (v:=.slice (some ⟨g121,0,none⟩) s.last.length ds13_2) (a':=?_) #[T0,T0,F0,F0,F0,F0,F0] rfl rfl (by kernel_rfl) (fun _ _ _ h=>h) (Or.inl ⟨by rfl,?_⟩) (Bk.below F64.out HB124.out) ?_ ?_
      ·rintro w' s0_
       have hc_:w'.cell? ⟨g5,2,none⟩=some (.slice (some ⟨g121,0,none⟩) s.last.length ds13_2):=(Bk.cell s0_ 2).trans rfl
       first|(go_simp;done)|(go_simp;with_reducible rfl)|(go_simp;rfl)
      rotate_left
      ·simp only [Act.put,zzA,zzB,zzC,i64_w,i32_w]
       rfl
      refine pure_ (i:=2) (N:=some 37) (v:=?_) (a':=?_) #[T0,T0,T0,F0,F0,F0,F0] rfl rfl (by kernel_rfl) (fun _ _ _ h=>h) (Or.inl ⟨by rfl,?_⟩) ?_ ?_
      rotate_left
      ·intro w'
       go_simp
       with_reducible rfl
      rotate_left
      ·simp only [Act.put,zzA,zzB,zzC,i64_w,i32_w]
       rfl
      refine one_ (i:=3) (N:=some 38) #[T0,T0,T0,T0,F0,F0,F0] rfl rfl (by kernel_rfl) (by decide) (fun K hK=>?_)
      refine lit_step (Kd.int .i64) 3 (by rfl) (N:=38) rfl (xs:=([(-1),1000,1001]:List Int)) (inner:=[.int .i64 (-1),.int .i64 1000,.int .i64 1001]) (by first|(go_simp;done)|(go_simp;rfl)) (reps_int ([(-1),1000,1001]:List Int)) (by simp) ?_
      intro A125 c126 W128 HL127 HB129
      refine hK.out _ _ (Bk.below F64.out (below_step HB124.out HB129.out)) (fun hHeld=>?_)
      clear hHeld hK K
      refine norm_ (a':=?_) ?_ ?_
      rotate_left
      ·show Act.put _ (some 38) _=_
       simp only [Act.put,zzA,zzB,zzC,i64_w,i32_w]
       rfl
      refine one_ (i:=4) (N:=some 39) #[T0,T0,T0,T0,T0,F0,F0] rfl rfl (by kernel_rfl) (by decide) (fun K hK=>?_)
      refine goes_ Try.func64 (by kernel_rfl) rfl #[.pointer (some ⟨g,0,none⟩),.slice A125 ([(-1),1000,1001]:List Int).length c126] (by rfl) rfl rfl (by (try simp only [List.map_toArray,List.map_cons,List.map_nil]);first|done|rfl) ?_
      refine (num_c (m:=m + 0) (Rd.below F65.out (below_step HB124.out HB129.out)) (below_step HB56.out (below_step HB124.out HB129.out)) HL127.out.1 HL127.out.2.1 (fun ad_ e_ h_=>(by have q_:=HL127.out.2.2 ad_ e_ h_;show ad_.block ≠ g;have z0_:=Z40.out;have z1_:=T58.out;have z2_:=GT122.out;have z3_:=HB124.out.size;have z4_:=HB129.out.size;omega)) (by decide)).mono ?_
      rintro e W135 ⟨r130,rfl,hm131,hR132,hb136,hk133⟩
      have z0_:=Z40.out
      have z1_:=T58.out
      have z2_:=GT122.out
      have z3_:=HB124.out.size
      have z4_:=HB129.out.size
      have T138:=Ak (show g5 + 1≤W128.heap.size from (by omega))
      have HB139:=Ak (hb136)
      have HK140:=Ak (hk133)
      have KP142:=Ak (Kept.then_ (Kept.below KP59.out (below_step HB124.out HB129.out)) HK140.out (fun _ h_=>Or.inl h_))
      have T141:=Ak (Nat.le_trans T138.out HK140.out.1)
      have F143:=Ak (StI.kept (StI.below F60.out (below_step HB124.out HB129.out)) HK140.out N51.out)
      have F144:=Ak (Bk.kept (Bk.below F61.out (below_step HB124.out HB129.out)) HK140.out N52.out)
      have F145:=Ak (Bk.kept (Bk.below F62.out (below_step HB124.out HB129.out)) HK140.out N53.out)
      have F146:=Ak (StR.kept (StR.below F63.out (below_step HB124.out HB129.out)) HK140.out N54.out)
      have F147:=Ak (Bk.kept (Bk.below F64.out (below_step HB124.out HB129.out)) HK140.out N55.out)
      have F148:=Ak (hR132)
      clear z0_ z1_ z2_ z3_ z4_ hb136 hk133 hR132
      have Z149:=Ak (And.intro Z40.out GT122.out)
      have HM134:=Ak hm131
      clear hm131
      refine ⟨_,rfl,?_⟩
      refine hK.out _ _ F147.out (fun hHeld=>?_)
      clear hHeld hK K
      refine norm_ (a':=?_) ?_ ?_
      rotate_left
      ·show Act.put _ (some 39) _=_
       simp only [Act.put,zzA,zzB,zzC,i64_w,i32_w]
       rfl
      refine pure_ (i:=5) (N:=some 40) (v:=?_) (a':=?_) #[T0,T0,T0,T0,T0,T0,F0] rfl rfl (by kernel_rfl) (fun _ _ _ h=>h) (Or.inl ⟨by rfl,?_⟩) ?_ ?_
      rotate_left
      ·intro w'
       go_simp
       with_reducible rfl
      rotate_left
      ·simp only [Act.put,zzA,zzB,zzC,i64_w,i32_w]
       rfl
      refine last_ (i:=6) (N:=none) #[T0,T0,T0,T0,T0,T0,T0] rfl rfl (by kernel_rfl) (by decide) (fun K hK=>?_)
      refine skip_ (w1:=W135.setCell ⟨g121,(0:Int).toNat,none⟩ (.int .i64 r130)) (by rfl) rfl ?_ ?_
      ·have hc_:=(show W135.cell? ⟨g121,0,none⟩=some (.int .i64 (rd s.last (0:Int))) from (StR.last_cell F146.out HI120.out.1 HI120.out.2).2.2.1)
       have hf_:=(show W135.frozen? ⟨g121,0,none⟩=false from (StR.last_cell F146.out HI120.out.1 HI120.out.2).2.2.2.1)
       first|(go_simp;done)|(go_simp;rfl)
      refine hK.out _ _ ?_
      clear hK K
      refine done_ (by kernel_rfl) ?_
      refine set_event (fun W150 e151=>?_)
      have z0_:=Z149.out;have z1_:=T141.out;have T152:=Ak (show g5 + 1≤W135.heap.size from (by omega));have HB153:=Ak (below_at HB139.out (below_setcell e151) (by show w0.heap.size≤g121;omega));have HK154:=Ak (kept_set e151);have KP156:=Ak (kept_new KP142.out HK154.out (by show w.heap.size≤g121;omega));have T155:=Ak (Nat.le_trans T152.out HK154.out.1);have F157:=Ak (StI.kept F143.out HK154.out (fun k_ h_=>(by obtain ⟨h1_,h2_⟩:=h_;omega)));have F158:=Ak (Bk.kept F144.out HK154.out (fun h_=>(by obtain ⟨h1_,h2_⟩:=h_;omega)));have F159:=Ak (Bk.kept F145.out HK154.out (fun h_=>(by obtain ⟨h1_,h2_⟩:=h_;omega)));have F160:=Ak ((StR.last_cell F146.out HI120.out.1 HI120.out.2).2.2.2.2 (r130) _ e151);have F161:=Ak (Bk.kept F147.out HK154.out (fun h_=>(by obtain ⟨h1_,h2_⟩:=h_;omega)));have F162:=Ak (Rd.kept F148.out HK154.out (fun h_=>(by obtain ⟨h1_,h2_⟩:=h_;omega)));clear z0_ z1_ e151
      try go_wp2
      go_meet
      case rel=>exact ⟨_,_,_,_,_,_,_,_,_,_,_,_,_,_,_,{ s with last:=s.last.set (0:Int).toNat (r130) },⟨F158.out⟩,⟨F159.out⟩,⟨F161.out⟩,⟨F157.out⟩,⟨StR.toI F160.out⟩,⟨Rd.less F162.out (by omega)⟩,⟨HB153.out⟩,⟨KP156.out⟩,⟨(by show g5 + 1≤W150.heap.size;have z0_:=Z149.out;have z1_:=T155.out;omega)⟩,⟨(small_last HS0.out)⟩,⟨HZ0.out⟩⟩
     ·have d118:decide (0<s.last.length)=false:=decide_eq_false (by omega)
      (first|rw [d118]|(simp only [i64_w,i32_w];rw [d118])|skip)
      have K119:=Ak c117
      clear c117
      try go_wp2
      go_meet
      case rel=>exact ⟨_,_,_,_,_,_,_,_,_,_,_,_,_,_,_,s,⟨F61.out⟩,⟨F62.out⟩,⟨F64.out⟩,⟨F60.out⟩,⟨StR.toI F63.out⟩,⟨Rd.less F65.out (by omega)⟩,⟨HB56.out⟩,⟨KP59.out⟩,⟨(by show g5 + 1≤W47.heap.size;have z0_:=Z40.out;have z1_:=T58.out;omega)⟩,⟨HS0.out⟩,⟨HZ0.out⟩⟩
    ·have d115:(r41 == 2)=false:=beq_eq_false_iff_ne.mpr c114
     (first|rw [d115]|(simp only [i64_w,i32_w];rw [d115])|skip)
     have K116:=Ak c114
     clear c114
     go_upto_if 41 with (fail)
     by_cases c163:r41=3
     ·have d164:(r41 == 3)=true:=beq_iff_eq.mpr c163
      (first|rw [d164]|(simp only [i64_w,i32_w];rw [d164])|skip)
      have K165:=Ak c163
      clear c163
      go_upto_region 13 with (fail)
      by_cases c166:(s.slast.length:Int) > 1
      ·have d167:decide (1<(s.slast.length:Int))=true:=decide_eq_true (by omega)
       (first|rw [d167]|(simp only [i64_w,i32_w];rw [d167])|skip)
       have K168:=Ak c166
       clear c166
       go_upto_if 52 with (first|((with_reducible refine gate_dst (N:=44) rfl ?_);refine ev_val (by rfl) (v:=.slice as13_3 s.slast.length ds13_3) ?hr ?_;(case hr=>have hc_:W47.cell? ⟨g5,3,none⟩=some (.slice as13_3 s.slast.length ds13_3):=(Bk.cell F64.out 3).trans rfl;first|(go_simp;done)|(go_simp;rfl)))|((with_reducible refine gate_dst (N:=49) rfl ?_);refine ev_val (by rfl) (v:=.slice as13_2 s.last.length ds13_2) ?hr ?_;(case hr=>have hc_:W47.cell? ⟨g5,2,none⟩=some (.slice as13_2 s.last.length ds13_2):=(Bk.cell F64.out 2).trans rfl;first|(go_simp;done)|(go_simp;rfl))))
       by_cases c169:(s.last.length:Int) > 1
       ·have d170:decide (1<(s.last.length:Int))=true:=decide_eq_true (by omega)
        (first|rw [d170]|(simp only [i64_w,i32_w];rw [d170])|skip)
        have K171:=Ak c169
        clear c169
        go_upto_region 14 with (fail)
        have HI172:=Ak (show (0:Int)≤(1:Int)∧(1:Int)<((s.slast).length:Int) from (by have i0_:=HP46.out;have i1_:=K69.out;have i2_:=K93.out;have i3_:=K116.out;have i4_:=K165.out;have i5_:=K168.out;have i6_:=K171.out;exact ⟨by omega,by omega⟩))
        obtain ⟨g173,rfl⟩:=StR.slast_form F63.out HI172.out.1 HI172.out.2
        have qHI172:(1<((s.slast).length:Int))=True:=eq_true (by have:=HI172.out.2;omega)
        have GT174:=Ak (And.intro (StR.slast_cell F63.out HI172.out.1 HI172.out.2).1 (StR.slast_cell F63.out HI172.out.1 HI172.out.2).2.1)
        have HI175:=Ak (show (0:Int)≤(1:Int)∧(1:Int)<((s.last).length:Int) from (by have i0_:=HP46.out;have i1_:=K69.out;have i2_:=K93.out;have i3_:=K116.out;have i4_:=K165.out;have i5_:=K168.out;have i6_:=K171.out;exact ⟨by omega,by omega⟩))
        obtain ⟨g176,rfl⟩:=StR.last_form F63.out HI175.out.1 HI175.out.2
        have qHI175:(1<((s.last).length:Int))=True:=eq_true (by have:=HI175.out.2;omega)
        have GT177:=Ak (And.intro (StR.last_cell F63.out HI175.out.1 HI175.out.2).1 (StR.last_cell F63.out HI175.out.1 HI175.out.2).2.1)
        go_wp2_with (fail)
        refine start_ (n:=12) (S:=fun w'=>Bk w' g5 #[.slice as13_0 s.now.length ds13_0,.slice as13_1 s.sure.length ds13_1,.slice (some ⟨g176,0,none⟩) s.last.length ds13_2,.slice (some ⟨g173,0,none⟩) s.slast.length ds13_3,.slice as13_4 s.floors.length ds13_4] 26∧w'.cell? ⟨g176,1,none⟩=some (.int .i64 (rd s.last (1:Int)))) (ds:=[11]) #[false,false,false,false,false,false,false,false,false,false,false,false] (by kernel_rfl) rfl rfl ⟨(show Bk W47 g5 #[.slice as13_0 s.now.length ds13_0,.slice as13_1 s.sure.length ds13_1,.slice (some ⟨g176,0,none⟩) s.last.length ds13_2,.slice (some ⟨g173,0,none⟩) s.slast.length ds13_3,.slice as13_4 s.floors.length ds13_4] 26 from F64.out),(show W47.cell? ⟨g176,1,none⟩=some (.int .i64 (rd s.last (1:Int))) from (show W47.cell? ⟨g176,1,none⟩=some (.int .i64 (rd s.last (1:Int))) from (StR.last_cell F63.out HI175.out.1 HI175.out.2).2.2.1))⟩ (fun hHeld=>?_)
        clear hHeld
        refine world_at (w:=W47) (below_drew0 _) (fun W178 HB179=>?_)
        refine pure_ (i:=0) (N:=some 53) (v:=?_) (a':=?_) #[T0,F0,F0,F0,F0,F0,F0,F0,F0,F0,F0,F0] rfl rfl (by kernel_rfl) (fun _ _ _ h=>h) (Or.inl ⟨by rfl,?_⟩) ?_ ?_
        rotate_left
        ·intro w'
         go_simp
         with_reducible rfl
        rotate_left
        ·simp only [Act.put,zzA,zzB,zzC,i64_w,i32_w]
         rfl
        refine take_ (i:=1) (N:=some 54) (v:=.slice (some ⟨g173,0,none⟩) s.slast.length ds13_3) (a':=?_) #[T0,T0,F0,F0,F0,F0,F0,F0,F0,F0,F0,F0] rfl rfl (by kernel_rfl) (fun _ _ _ h=>h) (Or.inl ⟨by rfl,?_⟩) ⟨(Bk.below F64.out HB179.out),(show W178.cell? ⟨g176,1,none⟩=some (.int .i64 (rd s.last (1:Int))) from (show W178.cell? ⟨g176,1,none⟩=some (.int .i64 (rd s.last (1:Int))) from (StR.last_cell (StR.below F63.out HB179.out) HI175.out.1 HI175.out.2).2.2.1))⟩ ?_ ?_
        ·rintro w' ⟨s0_,s1_⟩
         have hc_:w'.cell? ⟨g5,3,none⟩=some (.slice (some ⟨g173,0,none⟩) s.slast.length ds13_3):=(Bk.cell s0_ 3).trans rfl
         first|(go_simp;done)|(go_simp;with_reducible rfl)|(go_simp;rfl)
        rotate_left
        ·simp only [Act.put,zzA,zzB,zzC,i64_w,i32_w]
         rfl
        refine pure_ (i:=2) (N:=some 55) (v:=?_) (a':=?_) #[T0,T0,T0,F0,F0,F0,F0,F0,F0,F0,F0,F0] rfl rfl (by kernel_rfl) (fun _ _ _ h=>h) (Or.inl ⟨by rfl,?_⟩) ?_ ?_
        rotate_left
        ·intro w'
         go_simp
         with_reducible rfl
        rotate_left
        ·simp only [Act.put,zzA,zzB,zzC,i64_w,i32_w]
         rfl
        refine take_ (i:=3) (N:=some 56) (v:=.slice (some ⟨g176,0,none⟩) s.last.length ds13_2) (a':=?_) #[T0,T0,T0,T0,F0,F0,F0,F0,F0,F0,F0,F0] rfl rfl (by kernel_rfl) (fun _ _ _ h=>h) (Or.inl ⟨by rfl,?_⟩) ⟨(Bk.below F64.out HB179.out),(show W178.cell? ⟨g176,1,none⟩=some (.int .i64 (rd s.last (1:Int))) from (show W178.cell? ⟨g176,1,none⟩=some (.int .i64 (rd s.last (1:Int))) from (StR.last_cell (StR.below F63.out HB179.out) HI175.out.1 HI175.out.2).2.2.1))⟩ ?_ ?_
        ·rintro w' ⟨s0_,s1_⟩
         have hc_:w'.cell? ⟨g5,2,none⟩=some (.slice (some ⟨g176,0,none⟩) s.last.length ds13_2):=(Bk.cell s0_ 2).trans rfl
         first|(go_simp;done)|(go_simp;with_reducible rfl)|(go_simp;rfl)
        rotate_left
        ·simp only [Act.put,zzA,zzB,zzC,i64_w,i32_w]
         rfl
        refine pure_ (i:=4) (N:=some 57) (v:=?_) (a':=?_) #[T0,T0,T0,T0,T0,F0,F0,F0,F0,F0,F0,F0] rfl rfl (by kernel_rfl) (fun _ _ _ h=>h) (Or.inl ⟨by rfl,?_⟩) ?_ ?_
        rotate_left
        ·intro w'
         go_simp
         with_reducible rfl
        rotate_left
        ·simp only [Act.put,zzA,zzB,zzC,i64_w,i32_w]
         rfl
        refine take_ (i:=5) (N:=some 58) (v:=.int .i64 (rd s.last (1:Int))) (a':=?_) #[T0,T0,T0,T0,T0,T0,F0,F0,F0,F0,F0,F0] rfl rfl (by kernel_rfl) (fun _ _ _ h=>h) (Or.inl ⟨by rfl,?_⟩) ⟨(Bk.below F64.out HB179.out),(show W178.cell? ⟨g176,1,none⟩=some (.int .i64 (rd s.last (1:Int))) from (show W178.cell? ⟨g176,1,none⟩=some (.int .i64 (rd s.last (1:Int))) from (StR.last_cell (StR.below F63.out HB179.out) HI175.out.1 HI175.out.2).2.2.1))⟩ ?_ ?_
        ·rintro w' ⟨s0_,s1_⟩
         first|(go_simp;done)|(go_simp;with_reducible rfl)|(go_simp;rfl)
        rotate_left
        ·simp only [Act.put,zzA,zzB,zzC,i64_w,i32_w]
         rfl
        refine pure_ (i:=6) (N:=some 59) (v:=?_) (a':=?_) #[T0,T0,T0,T0,T0,T0,T0,F0,F0,F0,F0,F0] rfl rfl (by kernel_rfl) (fun _ _ _ h=>h) (Or.inl ⟨by rfl,?_⟩) ?_ ?_
        rotate_left
        ·intro w'
         go_simp
         with_reducible rfl
        rotate_left
        ·simp only [Act.put,zzA,zzB,zzC,i64_w,i32_w]
         rfl
        refine one_ (i:=7) (N:=some 60) #[T0,T0,T0,T0,T0,T0,T0,T0,F0,F0,F0,F0] rfl rfl (by kernel_rfl) (by decide) (fun K hK=>?_)
        refine lit_step (Kd.int .i64) 3 (by rfl) (N:=60) rfl (xs:=([1,(-1)]:List Int)) (inner:=[.int .i64 1,.int .i64 (-1)]) (by first|(go_simp;done)|(go_simp;rfl)) (reps_int ([1,(-1)]:List Int)) (by simp) ?_
        intro A180 c181 W183 HL182 HB184
        refine hK.out _ _ ⟨(Bk.below F64.out (below_step HB179.out HB184.out)),(show W183.cell? ⟨g176,1,none⟩=some (.int .i64 (rd s.last (1:Int))) from (show W183.cell? ⟨g176,1,none⟩=some (.int .i64 (rd s.last (1:Int))) from (StR.last_cell (StR.below F63.out (below_step HB179.out HB184.out)) HI175.out.1 HI175.out.2).2.2.1))⟩ (fun hHeld=>?_)
        clear hHeld hK K
        refine norm_ (a':=?_) ?_ ?_
        rotate_left
        ·show Act.put _ (some 60) _=_
         simp only [Act.put,zzA,zzB,zzC,i64_w,i32_w]
         rfl
        refine one_ (i:=8) (N:=some 61) #[T0,T0,T0,T0,T0,T0,T0,T0,T0,F0,F0,F0] rfl rfl (by kernel_rfl) (by decide) (fun K hK=>?_)
        refine goes_ Try.func64 (by kernel_rfl) rfl #[.pointer (some ⟨g,0,none⟩),.slice A180 ([1,(-1)]:List Int).length c181] (by rfl) rfl rfl (by (try simp only [List.map_toArray,List.map_cons,List.map_nil]);first|done|rfl) ?_
        refine (num_c (m:=m + 0) (Rd.below F65.out (below_step HB179.out HB184.out)) (below_step HB56.out (below_step HB179.out HB184.out)) HL182.out.1 HL182.out.2.1 (fun ad_ e_ h_=>(by have q_:=HL182.out.2.2 ad_ e_ h_;show ad_.block ≠ g;have z0_:=Z40.out;have z1_:=T58.out;have z2_:=GT174.out;have z3_:=GT177.out;have z4_:=HB179.out.size;have z5_:=HB184.out.size;omega)) (by decide)).mono ?_
        rintro e W190 ⟨r185,rfl,hm186,hR187,hb191,hk188⟩
        have z0_:=Z40.out
        have z1_:=T58.out
        have z2_:=GT174.out
        have z3_:=GT177.out
        have z4_:=HB179.out.size
        have z5_:=HB184.out.size
        have T193:=Ak (show g5 + 1≤W183.heap.size from (by omega))
        have HB194:=Ak (hb191)
        have HK195:=Ak (hk188)
        have KP197:=Ak (Kept.then_ (Kept.below KP59.out (below_step HB179.out HB184.out)) HK195.out (fun _ h_=>Or.inl h_))
        have T196:=Ak (Nat.le_trans T193.out HK195.out.1)
        have F198:=Ak (StI.kept (StI.below F60.out (below_step HB179.out HB184.out)) HK195.out N51.out)
        have F199:=Ak (Bk.kept (Bk.below F61.out (below_step HB179.out HB184.out)) HK195.out N52.out)
        have F200:=Ak (Bk.kept (Bk.below F62.out (below_step HB179.out HB184.out)) HK195.out N53.out)
        have F201:=Ak (StR.kept (StR.below F63.out (below_step HB179.out HB184.out)) HK195.out N54.out)
        have F202:=Ak (Bk.kept (Bk.below F64.out (below_step HB179.out HB184.out)) HK195.out N55.out)
        have F203:=Ak (hR187)
        clear z0_ z1_ z2_ z3_ z4_ z5_ hb191 hk188 hR187
        have Z204:=Ak (And.intro Z40.out (And.intro GT174.out GT177.out))
        have HM189:=Ak hm186
        clear hm186
        refine ⟨_,rfl,?_⟩
        refine hK.out _ _ ⟨F202.out,(show W190.cell? ⟨g176,1,none⟩=some (.int .i64 (rd s.last (1:Int))) from (show W190.cell? ⟨g176,1,none⟩=some (.int .i64 (rd s.last (1:Int))) from (StR.last_cell F201.out HI175.out.1 HI175.out.2).2.2.1))⟩ (fun hHeld=>?_)
        clear hHeld hK K
        refine norm_ (a':=?_) ?_ ?_
        rotate_left
        ·show Act.put _ (some 61) _=_
         simp only [Act.put,zzA,zzB,zzC,i64_w,i32_w]
         rfl
        refine pure_ (i:=9) (N:=some 62) (v:=?_) (a':=?_) #[T0,T0,T0,T0,T0,T0,T0,T0,T0,T0,F0,F0] rfl rfl (by kernel_rfl) (fun _ _ _ h=>h) (Or.inl ⟨by rfl,?_⟩) ?_ ?_
        rotate_left
        ·intro w'
         go_simp
         with_reducible rfl
        rotate_left
        ·simp only [Act.put,zzA,zzB,zzC,i64_w,i32_w]
         rfl
        refine pure_ (i:=10) (N:=some 63) (v:=?_) (a':=?_) #[T0,T0,T0,T0,T0,T0,T0,T0,T0,T0,T0,F0] rfl rfl (by kernel_rfl) (fun _ _ _ h=>h) (Or.inl ⟨by rfl,?_⟩) ?_ ?_
        rotate_left
        ·intro w'
         go_simp
         with_reducible rfl
        rotate_left
        ·simp only [Act.put,zzA,zzB,zzC,i64_w,i32_w]
         rfl
        refine last_ (i:=11) (N:=none) #[T0,T0,T0,T0,T0,T0,T0,T0,T0,T0,T0,T0] rfl rfl (by kernel_rfl) (by decide) (fun K hK=>?_)
        refine skip_ (w1:=W190.setCell ⟨g173,(1:Int).toNat,none⟩ (.int .i64 (wrap64 ((rd s.last (1:Int)) + r185)))) (by rfl) rfl ?_ ?_
        ·have hc_:=(show W190.cell? ⟨g173,1,none⟩=some (.int .i64 (rd s.slast (1:Int))) from (StR.slast_cell F201.out HI172.out.1 HI172.out.2).2.2.1)
         have hf_:=(show W190.frozen? ⟨g173,1,none⟩=false from (StR.slast_cell F201.out HI172.out.1 HI172.out.2).2.2.2.1)
         first|(go_simp;done)|(go_simp;rfl)
        refine hK.out _ _ ?_
        clear hK K
        refine done_ (by kernel_rfl) ?_
        refine set_event (fun W205 e206=>?_)
        have z0_:=Z204.out;have z1_:=T196.out;have T207:=Ak (show g5 + 1≤W190.heap.size from (by omega));have HB208:=Ak (below_at HB194.out (below_setcell e206) (by show w0.heap.size≤g173;omega));have HK209:=Ak (kept_set e206);have KP211:=Ak (kept_new KP197.out HK209.out (by show w.heap.size≤g173;omega));have T210:=Ak (Nat.le_trans T207.out HK209.out.1);have F212:=Ak (StI.kept F198.out HK209.out (fun k_ h_=>(by obtain ⟨h1_,h2_⟩:=h_;omega)));have F213:=Ak (Bk.kept F199.out HK209.out (fun h_=>(by obtain ⟨h1_,h2_⟩:=h_;omega)));have F214:=Ak (Bk.kept F200.out HK209.out (fun h_=>(by obtain ⟨h1_,h2_⟩:=h_;omega)));have F215:=Ak ((StR.slast_cell F201.out HI172.out.1 HI172.out.2).2.2.2.2 ((wrap64 ((rd s.last (1:Int)) + r185))) _ e206);have F216:=Ak (Bk.kept F202.out HK209.out (fun h_=>(by obtain ⟨h1_,h2_⟩:=h_;omega)));have F217:=Ak (Rd.kept F203.out HK209.out (fun h_=>(by obtain ⟨h1_,h2_⟩:=h_;omega)));clear z0_ z1_ e206
        try go_wp2
        go_meet
        case rel=>exact ⟨_,_,_,_,_,_,_,_,_,_,_,_,_,_,_,{ s with slast:=s.slast.set (1:Int).toNat ((wrap64 ((rd s.last (1:Int)) + r185))) },⟨F213.out⟩,⟨F214.out⟩,⟨F216.out⟩,⟨F212.out⟩,⟨StR.toI F215.out⟩,⟨Rd.less F217.out (by omega)⟩,⟨HB208.out⟩,⟨KP211.out⟩,⟨(by show g5 + 1≤W205.heap.size;have z0_:=Z204.out;have z1_:=T210.out;omega)⟩,⟨(small_slast HS0.out)⟩,⟨HZ0.out⟩⟩
       ·have d170:decide (1<(s.last.length:Int))=false:=decide_eq_false (by omega)
        (first|rw [d170]|(simp only [i64_w,i32_w];rw [d170])|skip)
        have K171:=Ak c169
        clear c169
        try go_wp2
        go_meet
        case rel=>exact ⟨_,_,_,_,_,_,_,_,_,_,_,_,_,_,_,s,⟨F61.out⟩,⟨F62.out⟩,⟨F64.out⟩,⟨F60.out⟩,⟨StR.toI F63.out⟩,⟨Rd.less F65.out (by omega)⟩,⟨HB56.out⟩,⟨KP59.out⟩,⟨(by show g5 + 1≤W47.heap.size;have z0_:=Z40.out;have z1_:=T58.out;omega)⟩,⟨HS0.out⟩,⟨HZ0.out⟩⟩
      ·have d167:decide (1<(s.slast.length:Int))=false:=decide_eq_false (by omega)
       (first|rw [d167]|(simp only [i64_w,i32_w];rw [d167])|skip)
       have K168:=Ak c166
       clear c166
       try go_wp2_with (first|((with_reducible refine gate_dst (N:=44) rfl ?_);refine ev_val (by rfl) (v:=.slice as13_3 s.slast.length ds13_3) ?hr ?_;(case hr=>have hc_:W47.cell? ⟨g5,3,none⟩=some (.slice as13_3 s.slast.length ds13_3):=(Bk.cell F64.out 3).trans rfl;first|(go_simp;done)|(go_simp;rfl))))
       go_meet
       case rel=>exact ⟨_,_,_,_,_,_,_,_,_,_,_,_,_,_,_,s,⟨F61.out⟩,⟨F62.out⟩,⟨F64.out⟩,⟨F60.out⟩,⟨StR.toI F63.out⟩,⟨Rd.less F65.out (by omega)⟩,⟨HB56.out⟩,⟨KP59.out⟩,⟨(by show g5 + 1≤W47.heap.size;have z0_:=Z40.out;have z1_:=T58.out;omega)⟩,⟨HS0.out⟩,⟨HZ0.out⟩⟩
     ·have d164:(r41 == 3)=false:=beq_eq_false_iff_ne.mpr c163
      (first|rw [d164]|(simp only [i64_w,i32_w];rw [d164])|skip)
      have K165:=Ak c163
      clear c163
      go_upto_if 64 with (fail)
      by_cases c218:r41=4
      ·have d219:(r41 == 4)=true:=beq_iff_eq.mpr c218
       (first|rw [d219]|(simp only [i64_w,i32_w];rw [d219])|skip)
       have K220:=Ak c218
       clear c218
       go_upto_if 69 with (first|((with_reducible refine gate_dst (N:=67) rfl ?_);refine ev_val (by rfl) (v:=.slice as13_4 s.floors.length ds13_4) ?hr ?_;(case hr=>have hc_:W47.cell? ⟨g5,4,none⟩=some (.slice as13_4 s.floors.length ds13_4):=(Bk.cell F64.out 4).trans rfl;first|(go_simp;done)|(go_simp;rfl))))
       by_cases c221:(s.floors.length:Int) > 0
       ·have d222:decide (0<s.floors.length)=true:=decide_eq_true (by omega)
        (first|rw [d222]|(simp only [i64_w,i32_w];rw [d222])|skip)
        have K223:=Ak c221
        clear c221
        go_upto_region 17 with (fail)
        have HI224:=Ak (show (0:Int)≤(0:Int)∧(0:Int)<((s.floors).length:Int) from (by have i0_:=HP46.out;have i1_:=K69.out;have i2_:=K93.out;have i3_:=K116.out;have i4_:=K165.out;have i5_:=K220.out;have i6_:=K223.out;exact ⟨by omega,by omega⟩))
        obtain ⟨g225,rfl⟩:=StR.floors_form F63.out HI224.out.1 HI224.out.2
        have qHI224:(0<(s.floors).length)=True:=eq_true (by have:=HI224.out.2;omega)
        have GT226:=Ak (And.intro (StR.floors_cell F63.out HI224.out.1 HI224.out.2).1 (StR.floors_cell F63.out HI224.out.1 HI224.out.2).2.1)
        go_wp2_with (fail)
        refine start_ (n:=7) (S:=fun w'=>Bk w' g5 #[.slice as13_0 s.now.length ds13_0,.slice as13_1 s.sure.length ds13_1,.slice as13_2 s.last.length ds13_2,.slice as13_3 s.slast.length ds13_3,.slice (some ⟨g225,0,none⟩) s.floors.length ds13_4] 26) (ds:=[6]) #[false,false,false,false,false,false,false] (by kernel_rfl) rfl rfl (show Bk W47 g5 #[.slice as13_0 s.now.length ds13_0,.slice as13_1 s.sure.length ds13_1,.slice as13_2 s.last.length ds13_2,.slice as13_3 s.slast.length ds13_3,.slice (some ⟨g225,0,none⟩) s.floors.length ds13_4] 26 from F64.out) (fun hHeld=>?_)
        clear hHeld
        refine world_at (w:=W47) (below_drew0 _) (fun W227 HB228=>?_)
        refine pure_ (i:=0) (N:=some 70) (v:=?_) (a':=?_) #[T0,F0,F0,F0,F0,F0,F0] rfl rfl (by kernel_rfl) (fun _ _ _ h=>h) (Or.inl ⟨by rfl,?_⟩) ?_ ?_
        rotate_left
        ·intro w'
         go_simp
         with_reducible rfl
        rotate_left
        ·simp only [Act.put,zzA,zzB,zzC,i64_w,i32_w]
         rfl
        refine take_ (i:=1) (N:=some 71) (v:=.slice (some ⟨g225,0,none⟩) s.floors.length ds13_4) (a':=?_) #[T0,T0,F0,F0,F0,F0,F0] rfl rfl (by kernel_rfl) (fun _ _ _ h=>h) (Or.inl ⟨by rfl,?_⟩) (Bk.below F64.out HB228.out) ?_ ?_
        ·rintro w' s0_
         have hc_:w'.cell? ⟨g5,4,none⟩=some (.slice (some ⟨g225,0,none⟩) s.floors.length ds13_4):=(Bk.cell s0_ 4).trans rfl
         first|(go_simp;done)|(go_simp;with_reducible rfl)|(go_simp;rfl)
        rotate_left
        ·simp only [Act.put,zzA,zzB,zzC,i64_w,i32_w]
         rfl
        refine pure_ (i:=2) (N:=some 72) (v:=?_) (a':=?_) #[T0,T0,T0,F0,F0,F0,F0] rfl rfl (by kernel_rfl) (fun _ _ _ h=>h) (Or.inl ⟨by rfl,?_⟩) ?_ ?_
        rotate_left
        ·intro w'
         go_simp
         with_reducible rfl
        rotate_left
        ·simp only [Act.put,zzA,zzB,zzC,i64_w,i32_w]
         rfl
        refine one_ (i:=3) (N:=some 73) #[T0,T0,T0,T0,F0,F0,F0] rfl rfl (by kernel_rfl) (by decide) (fun K hK=>?_)
        refine lit_step (Kd.int .i64) 3 (by rfl) (N:=73) rfl (xs:=([(-1),100,101]:List Int)) (inner:=[.int .i64 (-1),.int .i64 100,.int .i64 101]) (by first|(go_simp;done)|(go_simp;rfl)) (reps_int ([(-1),100,101]:List Int)) (by simp) ?_
        intro A229 c230 W232 HL231 HB233
        refine hK.out _ _ (Bk.below F64.out (below_step HB228.out HB233.out)) (fun hHeld=>?_)
        clear hHeld hK K
        refine norm_ (a':=?_) ?_ ?_
        rotate_left
        ·show Act.put _ (some 73) _=_
         simp only [Act.put,zzA,zzB,zzC,i64_w,i32_w]
         rfl
        refine one_ (i:=4) (N:=some 74) #[T0,T0,T0,T0,T0,F0,F0] rfl rfl (by kernel_rfl) (by decide) (fun K hK=>?_)
        refine goes_ Try.func64 (by kernel_rfl) rfl #[.pointer (some ⟨g,0,none⟩),.slice A229 ([(-1),100,101]:List Int).length c230] (by rfl) rfl rfl (by (try simp only [List.map_toArray,List.map_cons,List.map_nil]);first|done|rfl) ?_
        refine (num_c (m:=m + 0) (Rd.below F65.out (below_step HB228.out HB233.out)) (below_step HB56.out (below_step HB228.out HB233.out)) HL231.out.1 HL231.out.2.1 (fun ad_ e_ h_=>(by have q_:=HL231.out.2.2 ad_ e_ h_;show ad_.block ≠ g;have z0_:=Z40.out;have z1_:=T58.out;have z2_:=GT226.out;have z3_:=HB228.out.size;have z4_:=HB233.out.size;omega)) (by decide)).mono ?_
        rintro e W239 ⟨r234,rfl,hm235,hR236,hb240,hk237⟩
        have z0_:=Z40.out
        have z1_:=T58.out
        have z2_:=GT226.out
        have z3_:=HB228.out.size
        have z4_:=HB233.out.size
        have T242:=Ak (show g5 + 1≤W232.heap.size from (by omega))
        have HB243:=Ak (hb240)
        have HK244:=Ak (hk237)
        have KP246:=Ak (Kept.then_ (Kept.below KP59.out (below_step HB228.out HB233.out)) HK244.out (fun _ h_=>Or.inl h_))
        have T245:=Ak (Nat.le_trans T242.out HK244.out.1)
        have F247:=Ak (StI.kept (StI.below F60.out (below_step HB228.out HB233.out)) HK244.out N51.out)
        have F248:=Ak (Bk.kept (Bk.below F61.out (below_step HB228.out HB233.out)) HK244.out N52.out)
        have F249:=Ak (Bk.kept (Bk.below F62.out (below_step HB228.out HB233.out)) HK244.out N53.out)
        have F250:=Ak (StR.kept (StR.below F63.out (below_step HB228.out HB233.out)) HK244.out N54.out)
        have F251:=Ak (Bk.kept (Bk.below F64.out (below_step HB228.out HB233.out)) HK244.out N55.out)
        have F252:=Ak (hR236)
        clear z0_ z1_ z2_ z3_ z4_ hb240 hk237 hR236
        have Z253:=Ak (And.intro Z40.out GT226.out)
        have HM238:=Ak hm235
        clear hm235
        refine ⟨_,rfl,?_⟩
        refine hK.out _ _ F251.out (fun hHeld=>?_)
        clear hHeld hK K
        refine norm_ (a':=?_) ?_ ?_
        rotate_left
        ·show Act.put _ (some 74) _=_
         simp only [Act.put,zzA,zzB,zzC,i64_w,i32_w]
         rfl
        refine pure_ (i:=5) (N:=some 75) (v:=?_) (a':=?_) #[T0,T0,T0,T0,T0,T0,F0] rfl rfl (by kernel_rfl) (fun _ _ _ h=>h) (Or.inl ⟨by rfl,?_⟩) ?_ ?_
        rotate_left
        ·intro w'
         go_simp
         with_reducible rfl
        rotate_left
        ·simp only [Act.put,zzA,zzB,zzC,i64_w,i32_w]
         rfl
        refine last_ (i:=6) (N:=none) #[T0,T0,T0,T0,T0,T0,T0] rfl rfl (by kernel_rfl) (by decide) (fun K hK=>?_)
        refine skip_ (w1:=W239.setCell ⟨g225,(0:Int).toNat,none⟩ (.int .i64 r234)) (by rfl) rfl ?_ ?_
        ·have hc_:=(show W239.cell? ⟨g225,0,none⟩=some (.int .i64 (rd s.floors (0:Int))) from (StR.floors_cell F250.out HI224.out.1 HI224.out.2).2.2.1)
         have hf_:=(show W239.frozen? ⟨g225,0,none⟩=false from (StR.floors_cell F250.out HI224.out.1 HI224.out.2).2.2.2.1)
         first|(go_simp;done)|(go_simp;rfl)
        refine hK.out _ _ ?_
        clear hK K
        refine done_ (by kernel_rfl) ?_
        refine set_event (fun W254 e255=>?_)
        have z0_:=Z253.out;have z1_:=T245.out;have T256:=Ak (show g5 + 1≤W239.heap.size from (by omega));have HB257:=Ak (below_at HB243.out (below_setcell e255) (by show w0.heap.size≤g225;omega));have HK258:=Ak (kept_set e255);have KP260:=Ak (kept_new KP246.out HK258.out (by show w.heap.size≤g225;omega));have T259:=Ak (Nat.le_trans T256.out HK258.out.1);have F261:=Ak (StI.kept F247.out HK258.out (fun k_ h_=>(by obtain ⟨h1_,h2_⟩:=h_;omega)));have F262:=Ak (Bk.kept F248.out HK258.out (fun h_=>(by obtain ⟨h1_,h2_⟩:=h_;omega)));have F263:=Ak (Bk.kept F249.out HK258.out (fun h_=>(by obtain ⟨h1_,h2_⟩:=h_;omega)));have F264:=Ak ((StR.floors_cell F250.out HI224.out.1 HI224.out.2).2.2.2.2 (r234) _ e255);have F265:=Ak (Bk.kept F251.out HK258.out (fun h_=>(by obtain ⟨h1_,h2_⟩:=h_;omega)));have F266:=Ak (Rd.kept F252.out HK258.out (fun h_=>(by obtain ⟨h1_,h2_⟩:=h_;omega)));clear z0_ z1_ e255
        try go_wp2
        go_meet
        case rel=>exact ⟨_,_,_,_,_,_,_,_,_,_,_,_,_,_,_,{ s with floors:=s.floors.set (0:Int).toNat (r234) },⟨F262.out⟩,⟨F263.out⟩,⟨F265.out⟩,⟨F261.out⟩,⟨StR.toI F264.out⟩,⟨Rd.less F266.out (by omega)⟩,⟨HB257.out⟩,⟨KP260.out⟩,⟨(by show g5 + 1≤W254.heap.size;have z0_:=Z253.out;have z1_:=T259.out;omega)⟩,⟨(small_floors HS0.out)⟩,⟨HZ0.out⟩⟩
       ·have d222:decide (0<s.floors.length)=false:=decide_eq_false (by omega)
        (first|rw [d222]|(simp only [i64_w,i32_w];rw [d222])|skip)
        have K223:=Ak c221
        clear c221
        try go_wp2
        go_meet
        case rel=>exact ⟨_,_,_,_,_,_,_,_,_,_,_,_,_,_,_,s,⟨F61.out⟩,⟨F62.out⟩,⟨F64.out⟩,⟨F60.out⟩,⟨StR.toI F63.out⟩,⟨Rd.less F65.out (by omega)⟩,⟨HB56.out⟩,⟨KP59.out⟩,⟨(by show g5 + 1≤W47.heap.size;have z0_:=Z40.out;have z1_:=T58.out;omega)⟩,⟨HS0.out⟩,⟨HZ0.out⟩⟩
      ·have d219:(r41 == 4)=false:=beq_eq_false_iff_ne.mpr c218
       (first|rw [d219]|(simp only [i64_w,i32_w];rw [d219])|skip)
       have K220:=Ak c218
       clear c218
       go_upto_if 76 with (fail)
       by_cases c267:r41=5
       ·have d268:(r41 == 5)=true:=beq_iff_eq.mpr c267
        (first|rw [d268]|(simp only [i64_w,i32_w];rw [d268])|skip)
        have K269:=Ak c267
        clear c267
        try go_wp2_with (first|((with_reducible refine gate_store (t:=24) (p:=78) rfl ?_);refine ev_setcell (by rfl) rfl (g:=g5) (i:=4) (v:=.slice none 0 0) ?hr ?_;(case hr=>have hc_:W47.cell? ⟨g5,4,none⟩=some (.slice as13_4 s.floors.length ds13_4):=(Bk.cell F64.out 4).trans rfl;have hf_:=Bk.hot F64.out 4;first|(go_simp;done)|(go_simp;rfl));intro W270 e271;have z0_:=Z40.out;have z1_:=T58.out;have T272:=Ak (show g5 + 1≤W47.heap.size from (by omega));have HB273:=Ak (below_at HB56.out (below_setcell e271) (by show w0.heap.size≤g5;omega));have HK274:=Ak (kept_set e271);have KP276:=Ak (kept_new KP59.out HK274.out (by show w.heap.size≤g5;omega));have T275:=Ak (Nat.le_trans T272.out HK274.out.1);have F277:=Ak (StI.kept F60.out HK274.out (fun k_ h_=>(by obtain ⟨h1_,h2_⟩:=h_;omega)));have F278:=Ak (Bk.kept F61.out HK274.out (fun h_=>(by obtain ⟨h1_,h2_⟩:=h_;omega)));have F279:=Ak (Bk.kept F62.out HK274.out (fun h_=>(by obtain ⟨h1_,h2_⟩:=h_;omega)));have F280:=Ak (StR.nil_floors (StR.kept F63.out HK274.out (fun k_ h_=>(by obtain ⟨h1_,h2_⟩:=h_;omega))));have F281:=Ak (Bk.put F64.out e271 rfl);have F282:=Ak (Rd.kept F65.out HK274.out (fun h_=>(by obtain ⟨h1_,h2_⟩:=h_;omega)));clear z0_ z1_ e271))
        go_meet
        case rel=>exact ⟨_,_,_,_,_,_,_,_,_,_,_,_,_,_,_,{ s with floors:=[] },⟨F278.out⟩,⟨F279.out⟩,⟨F281.out⟩,⟨F277.out⟩,⟨StR.toI F280.out⟩,⟨Rd.less F282.out (by omega)⟩,⟨HB273.out⟩,⟨KP276.out⟩,⟨(by show g5 + 1≤W270.heap.size;have z0_:=Z40.out;have z1_:=T275.out;omega)⟩,⟨(small_nil HS0.out)⟩,⟨HZ0.out⟩⟩
       ·have d268:(r41 == 5)=false:=beq_eq_false_iff_ne.mpr c267
        (first|rw [d268]|(simp only [i64_w,i32_w];rw [d268])|skip)
        have K269:=Ak c267
        clear c267
        try go_wp2
        go_meet
        case rel=>exact ⟨_,_,_,_,_,_,_,_,_,_,_,_,_,_,_,s,⟨F61.out⟩,⟨F62.out⟩,⟨F64.out⟩,⟨F60.out⟩,⟨StR.toI F63.out⟩,⟨Rd.less F65.out (by omega)⟩,⟨HB56.out⟩,⟨KP59.out⟩,⟨(by show g5 + 1≤W47.heap.size;have z0_:=Z40.out;have z1_:=T58.out;omega)⟩,⟨HS0.out⟩,⟨HZ0.out⟩⟩
 case rest =>
  obtain ⟨W66,hW_⟩:∃ x_,x_=wc:=⟨_,rfl⟩
  subst hW_
  obtain ⟨b0_,n0_,e0_,b1_,n1_,e1_,b2_,n2_,e2_,b3_,n3_,e3_,b4_,n4_,e4_,t_,BK283,BK284,BK285,HR286,HR287,RD288,HB289,KP290,HZ291,HX292,HX293⟩:=hcut
  have HSt:=HX292
  have HZt:=HX293
  go_wp2_with (first|((with_reducible refine gate_dst (N:=79) rfl ?_);refine ev_load rfl (N:=79) rfl rfl (g:=g5) rfl (cs:=#[.slice b0_ n0_ e0_,.slice b1_ n1_ e1_,.slice b2_ n2_ e2_,.slice b3_ n3_ e3_,.slice b4_ n4_ e4_]) BK285.out hu26 rfl (by kernel_rfl) ?_)|((with_reducible refine gate_store (t:=26) (p:=4) rfl ?_);refine ev_put (by rfl) rfl rfl (g:=g4) rfl (cs:=#[.slice b0_ n0_ e0_,.slice b1_ n1_ e1_,.slice b2_ n2_ e2_,.slice b3_ n3_ e3_,.slice b4_ n4_ e4_]) rfl BK284.out (by kernel_rfl) rfl rfl ?_;intro W294 BK295 HB296 HK297;have z0_:=Z40.out;have z1_:=HZ291.out;have T298:=Ak (show g5 + 1≤W66.heap.size from (by omega));have HB299:=Ak (below_at HB289.out HB296.out (by show w0.heap.size≤g4;omega));have HK300:=Ak (HK297.out);have KP302:=Ak (kept_new KP290.out HK300.out (by show w.heap.size≤g4;omega));have T301:=Ak (Nat.le_trans T298.out HK300.out.1);have F303:=Ak (StI.kept HR286.out HK300.out (fun k_ h_=>(by obtain ⟨h1_,h2_⟩:=h_;omega)));have F304:=Ak (Bk.kept BK283.out HK300.out (fun h_=>(by obtain ⟨h1_,h2_⟩:=h_;omega)));have F305:=Ak (BK295.out);have F306:=Ak (StI.kept HR287.out HK300.out (fun k_ h_=>(by obtain ⟨h1_,h2_⟩:=h_;omega)));have F307:=Ak (Bk.kept BK285.out HK300.out (fun h_=>(by obtain ⟨h1_,h2_⟩:=h_;omega)));have F308:=Ak (Rd.kept RD288.out HK300.out (fun h_=>(by obtain ⟨h1_,h2_⟩:=h_;omega)));clear z0_ z1_))
  try go_wp2
  refine bodyPost_ret (results_cell_row rfl _ _ g4 26 #[.slice b0_ n0_ e0_,.slice b1_ n1_ e1_,.slice b2_ n2_ e2_,.slice b3_ n3_ e3_,.slice b4_ n4_ e4_] (0,0) _ rfl F305.out hu26 rfl (by kernel_rfl)) rfl ?_
  have HWI:=StI.widen F306.out (lo':=w.heap.size) (hi':=W294.heap.size) (by have z0_:=Z40.out;have z1_:=T301.out;omega) (by have z0_:=Z40.out;have z1_:=T301.out;omega);have HRL:=Rd.less F308.out (show m≤_ by omega);first|exact ⟨_,_,rfl,HWI,HSt.out,HZt.out,HRL,HB299.out,KP302.out⟩|exact ⟨_,rfl,_,HWI,HSt.out,HZt.out,HRL,HB299.out,KP302.out⟩
end Go.Proofs.Ytmekkapacbdbeaa.P
namespace Go.Proofs.Ytmekkapacbdbeaa.P
open Go.RowKit Go.Proofs.YtmekkapacbdbeaaW.PrintWords Go.Proofs.YtmekkapacbdbeaaW.PrintLast Go.Proofs.YtmekkapacbdbeaaW.PrintMore
theorem rdT_small {xs:List S52} (h:∀ x ∈ xs,x.f5.size≤9223372036854775807) (i:Int):(rd_T52 xs i).f5.size≤9223372036854775807:=by
 unfold rd_T52
 by_cases hi:i.toNat<xs.length
 ·rw [List.getD_eq_getElem?_getD,List.getElem?_eq_getElem hi]
  exact h _ (List.getElem_mem hi)
 ·rw [List.getD_eq_getElem?_getD,List.getElem?_eq_none (by omega)]
  decide
theorem push_small {xs:List S52} {p:S52} (h:∀ x ∈ xs,x.f5.size≤9223372036854775807) (hp:p.f5.size≤9223372036854775807):∀ x ∈ xs ++ [p],x.f5.size≤9223372036854775807:=by
 intro x hx
 rcases List.mem_append.1 hx with hx|hx
 ·exact h x hx
 ·rw [List.mem_singleton.1 hx]
  exact hp
def RowB (w:World) (lo b:Nat) (v:Value) (xs:List S52):Prop:=k52.R 52 w lo (fun k=>k=b) v xs∧v.ownBlock=some b
theorem own_only {w:World} {lo b:Nat} {ok:Nat→Prop} {v:Value} {xs:List S52} (h:k52.R 52 w lo ok v xs) (e:v.ownBlock=some b):k52.R 52 w lo (fun k=>k=b) v xs:=by
 obtain ⟨h0,inner,ho,hr⟩:=h
 exact ⟨fun k hk=>Option.some.inj (hk.symm.trans e),inner,ho,hr.imp_ fun x cs hm=>by rw [k52_openM hm];exact k52_mkM _ _ _ x⟩
section
variable {w w1:World} {lo b:Nat} {v:Value} {xs:List S52}
theorem RowB.kept {S:Nat→Prop} (h:RowB w lo b v xs) (hk:Kept w w1 S) (hS:¬ S b):RowB w1 lo b v xs:=⟨Kd.R_kept h.1 hk fun _ e=>e ▸ hS,h.2⟩
theorem RowB.below (h:RowB w lo b v xs) (hb:Below w.heap.size w w1):RowB w1 lo b v xs:=⟨Kd.R_below h.1 hb,h.2⟩
theorem RowB.lt (h:RowB w lo b v xs):b<w.heap.size:=Kd.R_lt h.1 b h.2
theorem RowB.ge (h:RowB w lo b v xs):lo≤b:=Kd.R_base h.1 b h.2
theorem RowB.slice (h:RowB w lo b v xs):∃ A c,v = .slice A xs.length c∧Kd.C k52 w A xs.length xs∧xs.length≤c:=by
 obtain ⟨A,c,e,h1,h2⟩:=Kd.R_reads h.1
 exact ⟨A,c,e,h2,h1⟩
end
section
variable {P:Program} {ops:Array Oper} {rest:List Oper} {o:Oper} {a:Act} {Q:Exit→Act→World→Prop} {W:World}
theorem ev_none (hgd:o.guard=none) {N:Tmp} (hd:o.dst=some N)
  (hrun:(execOp a.eval o).run P W = .ok (.value (.slice (some ⟨W.heap.size,0,none⟩) 0 0)) (W.alloc (.cells #[] 52)))
  (h:∀ b A c w1,Aside0 (RowB w1 W.heap.size b (.slice A 0 c) [])→Aside0 (Below W.heap.size W w1)→wpList P ops Q rest (a.put o.dst (.slice A 0 c)) w1):wpList P ops Q (o :: rest) a W :=
 Kd.R_lit k52 (w0:=W) W.heap.size 52 hgd hd (xs:=[]) (inner:=[]) (ok:=fun _=>True) hrun (Reps.none _ _) (fun _ h=>h) trivial (Below.refl _ _) (Nat.le_refl _) (Nat.zero_le _) fun v1 w1 hr hb _ ho=>by
  obtain ⟨A,c,rfl⟩:=Kd.R_slice hr
  obtain ⟨b,e,_⟩:=ho
  exact h b A c w1 ⟨own_only hr e,e⟩ ⟨hb⟩
theorem ev_push (hgd:o.guard=none) {s x:Operand} {t:TypeId} {z:Value} {bytes:Nat}
  (ho:o.op = .call { callee:=.builtin .append,args:=#[s,x],argTypes:=#[t,t] })
  (ht:P.underlying t=some (.slice 52)) (hinfo:(P.info? 52).map (fun i=>(i.zero,i.size,i.bytes))=some (some z,k52.sz,bytes)) (hz:z.cells.size=k52.sz) (hs0:0<k52.sz) (hb0:0<bytes)
  {v:Value} {xs:List S52} (p:S52) {cs:List Value} {lo b:Nat} (hs:a.eval s=v) (hx:a.eval x = .slice (some ⟨W.heap.size,0,none⟩) 1 1) (hp:k52.M W lo (fun _=>False) p cs) (HO:RowB W lo b v xs) (hl:(xs.length + 1) * bytes≤140737488355328)
  (h:∀ b' A c w1,Aside0 (RowB w1 lo b' (.slice A (xs ++ [p]).length c) (xs ++ [p]))→Aside0 (b'=b∨W.heap.size≤b')→Aside0 (Kept W w1 (fun k=>b≤k∧k<b + 1))→Aside0 (Below lo W w1)→wpList P ops Q rest (a.put o.dst (.slice A (xs ++ [p]).length c)) w1) :
  wpList P ops Q (o :: rest) a (W.alloc (.cells cs.toArray 52)) :=
 Kd.R_append k52 (w0:=W) lo hgd s x t 52 z bytes ho ht hinfo hz hs0 hb0 v xs p cs (fun k=>k=b∨W.heap.size≤k) (fun _=>False) hs hx hp (fun _ h=>h.elim) (fun _ h=>.inr h) (Kd.R_mono HO.1 fun _ hk=>.inl hk) (Below.refl lo W) (Nat.le_trans HO.ge (Nat.le_of_lt HO.lt)) hl fun v1 w1 hr hb hg hown=>by
  obtain ⟨A,c,rfl⟩:=Kd.R_slice hr
  have hk:Kept W w1 (fun k=>b≤k∧k<b + 1):=Kept.of_grown hg (Kept.refl _ _) fun k hk=>.inl (by have:=Option.some.inj (hk.symm.trans HO.2);omega)
  have ho':∃ b',(Value.slice A (xs ++ [p]).length c).ownBlock=some b'∧(b'=b∨W.heap.size≤b'):=by
   rcases hown with e|⟨b',e,h3⟩
   ·exact ⟨b,e.trans HO.2,.inl rfl⟩
   ·exact ⟨b',e,.inr h3⟩
  obtain ⟨b',e,h3⟩:=ho'
  exact h b' A c w1 ⟨own_only hr e,e⟩ ⟨h3⟩ ⟨hk⟩ ⟨hb⟩
end
end Go.Proofs.Ytmekkapacbdbeaa.P
namespace Go.Proofs.Ytmekkapacbdbeaa.P
open Go.RowKit Go.Proofs.YtmekkapacbdbeaaW.PrintWords Go.Proofs.YtmekkapacbdbeaaW.PrintLast Go.Proofs.YtmekkapacbdbeaaW.PrintMore
attribute [local go_sem] max2_int min2_int max_two min_two max_three min_three max_four min_four 
def spec_l2Long.l0:Nat→ByteArray→Int→Option (ByteArray)
 | 0,_,_=>none
 | k + 1,x0,x1=>if (x0.size:Int)<x1 then (if x0.size + 1≤9223372036854775807 then (spec_l2Long.l0 k (x0 ++ (⟨#[46]⟩:ByteArray)) x1) else (none)) else (some x0)
def spec_l2Long.f (k:Nat) (a0:ByteArray) (a1:Int):Option (ByteArray):=spec_l2Long.l0 k a0 a1
theorem spec_l2Long.calls (k:Nat) (a0:ByteArray) (a1:Int) (r:ByteArray) (w:World) (h:spec_l2Long.f k a0 a1=some r) :
  Calls Try.prog 80 #[.string a0,.int .i64 a1] w fun e w'=>e = .returned (.string r)∧Drawn0 w w':=by
 have H:(spec_l2Long.l0 k a0 a1)=some r:=h
 clear h
 have H':=Ak H
 clear H
 go_enter Try.func80,Try.ntmps80
 go_wp2
 go_loopg [0] k (fun kq v0 w'=>∃ (x0_1:ByteArray),v0 = .string x0_1∧Aside0 (spec_l2Long.l0 kq x0_1 a1=some r)∧Aside0 (kq≤k)∧Drawn0 w w')
 case atStart=>exact ⟨(a0),(by first|rfl|(simp;done)|(simp [*];done)),H',⟨Nat.le_refl _⟩,by repeat (first|exact Drawn0.refl _|apply Drawn0.step)⟩
 case round =>
  clear H'
  try clear p2
  obtain ⟨x0_1,rfl,HA,HK1,⟨m1,rfl⟩⟩:=hrel
  cases gk with
  | zero=>exact absurd HA.out (by simp [spec_l2Long.l0])
  | succ k1 =>
   have H:=HA.out
   clear HA
   simp only [spec_l2Long.l0] at H
   by_cases c3:(x0_1.size:Int)<a1
   ·rw [if_pos c3] at H
    have c3b0:decide ((x0_1.size:Int)<a1)=true:=decide_eq_true c3
    clear c3
    by_cases c4:x0_1.size + 1≤9223372036854775807
    ·rw [if_pos c4] at H
     have c4b0:=eq_true c4
     have c4b1:decide (x0_1.size + 1≤9223372036854775807)=true:=decide_eq_true c4
     try have c4b2:(9223372036854775807<x0_1.size + 1)=False:=eq_false (Nat.not_lt.2 c4)
     have H':=Ak H
     clear H
     go_wp2
     go_roundg k1
     case measure=>have:=HK1.out;omega
     case rel=>exact ⟨(x0_1 ++ (⟨#[46]⟩:ByteArray)),(by first|rfl|(simp;done)|(simp [*];done)),H',⟨by have:=HK1.out;omega⟩,by repeat (first|exact Drawn0.refl _|apply Drawn0.step)⟩
    ·rw [if_neg c4] at H
     exact absurd H (by simp)
   ·rw [if_neg c3] at H
    have c3b0:decide ((x0_1.size:Int)<a1)=false:=decide_eq_false c3
    clear c3
    obtain rfl:=Option.some.inj H
    go_wp2
    go_ret
    exact ⟨by first|rfl|(simp;done)|(simp [*];done),by repeat (first|exact Drawn0.refl _|apply Drawn0.step)⟩
def spec_l2Write.f (k:Nat) (a0:ByteArray) (a1:Int) (a2:ByteArray):Option (ByteArray):=(spec_l2Long.f k a0 a1).bind fun t278=>(if 0≤a1 then (if a1≤(t278.size:Int) then (if (t278.extract 0 (a1:Int).toNat).size + a2.size≤9223372036854775807 then ((spec_l1Min.f (t278.size:Int) (wrap64 (a1 + (a2.size:Int)))).bind fun t279=>(if 0≤t279 then (if t279≤(t278.size:Int) then (if ((t278.extract 0 (a1:Int).toNat) ++ a2).size + (t278.extract (t279:Int).toNat t278.size).size≤9223372036854775807 then (some (((t278.extract 0 (a1:Int).toNat) ++ a2) ++ (t278.extract (t279:Int).toNat t278.size))) else (none)) else (none)) else (none))) else (none)) else (none)) else (none))
theorem spec_l2Write.calls (k:Nat) (a0:ByteArray) (a1:Int) (a2:ByteArray) (r:ByteArray) (w:World) (h:spec_l2Write.f k a0 a1 a2=some r) :
  Calls Try.prog 74 #[.string a0,.int .i64 a1,.string a2] w fun e w'=>e = .returned (.string r)∧Drawn0 w w':=by
 have H:((spec_l2Long.f k a0 a1).bind fun t278=>(if 0≤a1 then (if a1≤(t278.size:Int) then (if (t278.extract 0 (a1:Int).toNat).size + a2.size≤9223372036854775807 then ((spec_l1Min.f (t278.size:Int) (wrap64 (a1 + (a2.size:Int)))).bind fun t279=>(if 0≤t279 then (if t279≤(t278.size:Int) then (if ((t278.extract 0 (a1:Int).toNat) ++ a2).size + (t278.extract (t279:Int).toNat t278.size).size≤9223372036854775807 then (some (((t278.extract 0 (a1:Int).toNat) ++ a2) ++ (t278.extract (t279:Int).toNat t278.size))) else (none)) else (none)) else (none))) else (none)) else (none)) else (none)))=some r:=h
 clear h
 replace H:=Option.bind_eq_some_iff.mp H
 obtain ⟨t278,A40,H⟩:=H
 replace H:(if 0≤a1 then (if a1≤(t278.size:Int) then (if (t278.extract 0 (a1:Int).toNat).size + a2.size≤9223372036854775807 then ((spec_l1Min.f (t278.size:Int) (wrap64 (a1 + (a2.size:Int)))).bind fun t279=>(if 0≤t279 then (if t279≤(t278.size:Int) then (if ((t278.extract 0 (a1:Int).toNat) ++ a2).size + (t278.extract (t279:Int).toNat t278.size).size≤9223372036854775807 then (some (((t278.extract 0 (a1:Int).toNat) ++ a2) ++ (t278.extract (t279:Int).toNat t278.size))) else (none)) else (none)) else (none))) else (none)) else (none)) else (none))=some r:=H
 have A4:=Ak A40
 clear A40
 by_cases c5:0≤a1
 ·rw [if_pos c5] at H
  have c5b0:=eq_true c5
  have c5b1:decide (0≤a1)=true:=decide_eq_true c5
  clear c5
  by_cases c6:a1≤(t278.size:Int)
  ·rw [if_pos c6] at H
   have c6b0:=eq_true c6
   have c6b1:decide (a1≤(t278.size:Int))=true:=decide_eq_true c6
   clear c6
   by_cases c7:(t278.extract 0 (a1:Int).toNat).size + a2.size≤9223372036854775807
   ·rw [if_pos c7] at H
    have c7b0:=eq_true c7
    have c7b1:decide ((t278.extract 0 (a1:Int).toNat).size + a2.size≤9223372036854775807)=true:=decide_eq_true c7
    try have c7b2:(9223372036854775807<(t278.extract 0 (a1:Int).toNat).size + a2.size)=False:=eq_false (Nat.not_lt.2 c7)
    replace H:=Option.bind_eq_some_iff.mp H
    obtain ⟨t279,A80,H⟩:=H
    replace H:(if 0≤t279 then (if t279≤(t278.size:Int) then (if ((t278.extract 0 (a1:Int).toNat) ++ a2).size + (t278.extract (t279:Int).toNat t278.size).size≤9223372036854775807 then (some (((t278.extract 0 (a1:Int).toNat) ++ a2) ++ (t278.extract (t279:Int).toNat t278.size))) else (none)) else (none)) else (none))=some r:=H
    have A8:=Ak A80
    clear A80
    by_cases c9:0≤t279
    ·rw [if_pos c9] at H
     have c9b0:=eq_true c9
     have c9b1:decide (0≤t279)=true:=decide_eq_true c9
     clear c9
     by_cases c10:t279≤(t278.size:Int)
     ·rw [if_pos c10] at H
      have c10b0:=eq_true c10
      have c10b1:decide (t279≤(t278.size:Int))=true:=decide_eq_true c10
      clear c10
      by_cases c11:((t278.extract 0 (a1:Int).toNat) ++ a2).size + (t278.extract (t279:Int).toNat t278.size).size≤9223372036854775807
      ·rw [if_pos c11] at H
       have c11b0:=eq_true c11
       have c11b1:decide (((t278.extract 0 (a1:Int).toNat) ++ a2).size + (t278.extract (t279:Int).toNat t278.size).size≤9223372036854775807)=true:=decide_eq_true c11
       try have c11b2:(9223372036854775807<((t278.extract 0 (a1:Int).toNat) ++ a2).size + (t278.extract (t279:Int).toNat t278.size).size)=False:=eq_false (Nat.not_lt.2 c11)
       obtain rfl:=Option.some.inj H
       go_enter Try.func74,Try.ntmps74
       go_wp2_with (first|(go_at_call 80;(with_reducible refine (spec_l2Long.calls k a0 a1 t278 _ A4.out).mono ?_);rintro e w' ⟨rfl,⟨nd,rfl⟩⟩;(try first|exact ⟨rfl,_,World.drewN_drewN _ _ _⟩|exact ⟨rfl,_,Eq.trans (World.drewN_drewN _ _ _) (congrArg (World.drewN _) (Nat.add_assoc _ _ _))⟩))|(go_at_call 78;(with_reducible refine (spec_l1Min.calls (t278.size:Int) (wrap64 (a1 + (a2.size:Int))) t279 _ A8.out).mono ?_);rintro e w' ⟨rfl,⟨nd,rfl⟩⟩;(try first|exact ⟨rfl,_,World.drewN_drewN _ _ _⟩|exact ⟨rfl,_,Eq.trans (World.drewN_drewN _ _ _) (congrArg (World.drewN _) (Nat.add_assoc _ _ _))⟩)))
       repeat (go_quiet (first|(go_at_call 80;(with_reducible refine (spec_l2Long.calls k a0 a1 t278 _ A4.out).mono ?_);rintro e w' ⟨rfl,⟨nd,rfl⟩⟩;(try first|exact ⟨rfl,_,World.drewN_drewN _ _ _⟩|exact ⟨rfl,_,Eq.trans (World.drewN_drewN _ _ _) (congrArg (World.drewN _) (Nat.add_assoc _ _ _))⟩))|(go_at_call 78;(with_reducible refine (spec_l1Min.calls (t278.size:Int) (wrap64 (a1 + (a2.size:Int))) t279 _ A8.out).mono ?_);rintro e w' ⟨rfl,⟨nd,rfl⟩⟩;(try first|exact ⟨rfl,_,World.drewN_drewN _ _ _⟩|exact ⟨rfl,_,Eq.trans (World.drewN_drewN _ _ _) (congrArg (World.drewN _) (Nat.add_assoc _ _ _))⟩)));try go_wp2_with (first|(go_at_call 80;(with_reducible refine (spec_l2Long.calls k a0 a1 t278 _ A4.out).mono ?_);rintro e w' ⟨rfl,⟨nd,rfl⟩⟩;(try first|exact ⟨rfl,_,World.drewN_drewN _ _ _⟩|exact ⟨rfl,_,Eq.trans (World.drewN_drewN _ _ _) (congrArg (World.drewN _) (Nat.add_assoc _ _ _))⟩))|(go_at_call 78;(with_reducible refine (spec_l1Min.calls (t278.size:Int) (wrap64 (a1 + (a2.size:Int))) t279 _ A8.out).mono ?_);rintro e w' ⟨rfl,⟨nd,rfl⟩⟩;(try first|exact ⟨rfl,_,World.drewN_drewN _ _ _⟩|exact ⟨rfl,_,Eq.trans (World.drewN_drewN _ _ _) (congrArg (World.drewN _) (Nat.add_assoc _ _ _))⟩))))
       go_ret
       exact ⟨by first|rfl|(simp;done)|(simp [*];done),by repeat (first|exact Drawn0.refl _|apply Drawn0.step)⟩
      ·rw [if_neg c11] at H
       exact absurd H (by simp)
     ·rw [if_neg c10] at H
      exact absurd H (by simp)
    ·rw [if_neg c9] at H
     exact absurd H (by simp)
   ·rw [if_neg c7] at H
    exact absurd H (by simp)
  ·rw [if_neg c6] at H
   exact absurd H (by simp)
 ·rw [if_neg c5] at H
  exact absurd H (by simp)
end Go.Proofs.Ytmekkapacbdbeaa.P
namespace Go.Proofs.Ytmekkapacbdbeaa.Sh
open Go.Shelf Go.RowKit Go.Lib
def rep_ren:Go.Shelf.Ren:=⟨fun|105=>79|212=>82|99=>83|165=>84|166=>85|170=>86|169=>87|263=>88|264=>89|206=>90|240=>91|241=>92|276=>93|277=>94|n=>n,fun|9=>9|3=>3|4=>4|20=>20|0=>0|46=>87|109=>88|5=>5|72=>93|76=>97|51=>101|146=>102|53=>104|148=>105|70=>91|37=>22|75=>96|127=>107|164=>108|80=>100|n=>n,fun|n=>n⟩
theorem rep_lays:Go.Proofs.Lays.n105 Try.prog rep_ren:={
 mixed:=by kernel_rfl
 f99:=Try.func83.trans (congrArg some (by kernel_rfl))
 f105:=Try.func79.trans (congrArg some (by kernel_rfl))
 f165:=Try.func84.trans (congrArg some (by kernel_rfl))
 f166:=Try.func85.trans (congrArg some (by kernel_rfl))
 f169:=Try.func87.trans (congrArg some (by kernel_rfl))
 f170:=Try.func86.trans (congrArg some (by kernel_rfl))
 f206:=Try.func90.trans (congrArg some (by kernel_rfl))
 f212:=Try.func82.trans (congrArg some (by kernel_rfl))
 f240:=Try.func91.trans (congrArg some (by kernel_rfl))
 f241:=Try.func92.trans (congrArg some (by kernel_rfl))
 f263:=Try.func88.trans (congrArg some (by kernel_rfl))
 f264:=Try.func89.trans (congrArg some (by kernel_rfl))
 f276:=Try.func93.trans (congrArg some (by kernel_rfl))
 f277:=Try.func94.trans (congrArg some (by kernel_rfl))
 t0:=Try.underlying0
 a0:=Try.isAgg0
 z0:=Try.sizeOf0
 v0:=Try.zeroValue0
 t3:=Try.underlying3
 a3:=Try.isAgg3
 z3:=Try.sizeOf3
 v3:=Try.zeroValue3
 t4:=Try.underlying4
 a4:=Try.isAgg4
 z4:=Try.sizeOf4
 v4:=Try.zeroValue4
 t5:=Try.underlying5
 a5:=Try.isAgg5
 z5:=Try.sizeOf5
 v5:=Try.zeroValue5
 t9:=Try.underlying9
 a9:=Try.isAgg9
 z9:=Try.sizeOf9
 v9:=Try.zeroValue9
 t20:=Try.underlying20
 a20:=Try.isAgg20
 z20:=Try.sizeOf20
 v20:=Try.zeroValue20
 t37:=Try.underlying22
 a37:=Try.isAgg22
 z37:=Try.sizeOf22
 v37:=Try.zeroValue22
 t46:=Try.underlying87
 a46:=Try.isAgg87
 z46:=Try.sizeOf87
 v46:=Try.zeroValue87
 t51:=Try.underlying101
 a51:=Try.isAgg101
 z51:=Try.sizeOf101
 v51:=Try.zeroValue101
 t53:=Try.underlying104
 a53:=Try.isAgg104
 z53:=Try.sizeOf104
 v53:=Try.zeroValue104
 t70:=Try.underlying91
 a70:=Try.isAgg91
 z70:=Try.sizeOf91
 v70:=Try.zeroValue91
 t72:=Try.underlying93
 a72:=Try.isAgg93
 z72:=Try.sizeOf93
 v72:=Try.zeroValue93
 t75:=Try.underlying96
 a75:=Try.isAgg96
 z75:=Try.sizeOf96
 v75:=Try.zeroValue96
 t76:=Try.underlying97
 a76:=Try.isAgg97
 z76:=Try.sizeOf97
 v76:=Try.zeroValue97
 t109:=Try.underlying88
 a109:=Try.isAgg88
 z109:=Try.sizeOf88
 v109:=Try.zeroValue88
 t127:=Try.underlying107
 a127:=Try.isAgg107
 z127:=Try.sizeOf107
 v127:=Try.zeroValue107
 t146:=Try.underlying102
 a146:=Try.isAgg102
 z146:=Try.sizeOf102
 v146:=Try.zeroValue102
 t148:=Try.underlying105
 a148:=Try.isAgg105
 z148:=Try.sizeOf105
 v148:=Try.zeroValue105
 t164:=Try.underlying108
 a164:=Try.isAgg108
 z164:=Try.sizeOf108
 v164:=Try.zeroValue108 }
theorem rep_extra:Builder.Extra Try.prog rep_ren:={
 sizeBuilder:=by kernel_rfl
 liesBuilder:=by kernel_rfl
 t5:=Try.underlying5
 a5:=Try.isAgg5
 z5:=Try.sizeOf5
 v5:=Try.zeroValue5
 infoByte:=by kernel_rfl
 cellsByte:=by kernel_rfl
 sizeByte:=by kernel_rfl
 neB5:=by decide }
theorem strings_Repeat (s:ByteArray) (c:Nat) (w:World) (hc:c≤9223372036854775807) (hlen:s.size * c≤140737488355328) :
  Calls Try.prog 79 #[.string s,.int .i64 c] w fun e w'=>e = .returned (.string ⟨(Lib.repeatL s.data.toList c).toArray⟩)∧Below w.heap.size w w':=Any.strings_Repeat rep_lays rep_extra s c w hc hlen
end Go.Proofs.Ytmekkapacbdbeaa.Sh
namespace Go.Proofs.Ytmekkapacbdbeaa.P
open Go.RowKit Go.Proofs.YtmekkapacbdbeaaW.PrintWords Go.Proofs.YtmekkapacbdbeaaW.PrintLast Go.Proofs.YtmekkapacbdbeaaW.PrintMore
def dots (n:Nat):ByteArray:=⟨(List.replicate n (46:UInt8)).toArray⟩
theorem repeatL_dot:∀ n,Lib.repeatL [(46:UInt8)] n=List.replicate n 46
 | 0=>rfl
 | n + 1=>by
  have h:=repeatL_dot n
  simp only [Lib.repeatL,List.replicate_succ] at h ⊢
  simp [h]
def impl_sized.f (a0:ByteArray) (a1:Int):Option (ByteArray):=if a1≤(a0.size:Int) then (if 0≤a1 then some (a0.extract 0 a1.toNat) else none) else (if a1≤4096 then some (a0 ++ dots (a1.toNat - a0.size)) else none)
set_option maxHeartbeats 1000000 in
theorem impl_sized.calls (a0:ByteArray) (a1:Int) (r:ByteArray) (w:World) (h:impl_sized.f a0 a1=some r) :
  Calls Try.prog 69 #[.string a0,.int .i64 a1] w fun e w'=>e = .returned (.string r)∧Below w.heap.size w w':=by
 unfold impl_sized.f at h
 by_cases c1:a1≤(a0.size:Int)
 ·rw [if_pos c1] at h
  by_cases c2:0≤a1
  ·rw [if_pos c2] at h
   obtain rfl:=Option.some.inj h
   clear h
   obtain ⟨n,rfl⟩:=Int.eq_ofNat_of_zero_le c2
   have c3:n≤a0.size:=by omega
   have c4:decide ((n:Int)≤(a0.size:Int))=true:=decide_eq_true c1
   have c5:decide (n≤a0.size)=true:=decide_eq_true c3
   clear c1
   go_enter Try.func69,Try.ntmps69
   go_wp2
   go_ret
   exact ⟨by simp,Below.refl _ _⟩
  ·rw [if_neg c2] at h
   cases h
 ·rw [if_neg c1] at h
  by_cases c2:a1≤4096
  ·rw [if_pos c2] at h
   obtain rfl:=Option.some.inj h
   clear h
   obtain ⟨n,rfl⟩:∃ n:Nat,a1=(a0.size:Int) + (n:Int):=⟨(a1 - a0.size).toNat,by omega⟩
   have c4:decide ((a0.size:Int) + (n:Int)≤(a0.size:Int))=false:=decide_eq_false c1
   have hn:0<n:=by omega
   have hb:a0.size + n≤4096:=by omega
   have hw:wrap64 ((a0.size:Int) + (n:Int) - (a0.size:Int))=(n:Int):=by unfold wrap64;omega
   have e1:((a0.size:Int) + (n:Int)).toNat - a0.size=n:=by omega
   rw [e1]
   clear e1 c1 c2
   go_enter Try.func69,Try.ntmps69
   go_wp2_with fail
   rw [show ((a0.size:Int) + (n:Int) - (a0.size:Int))=(n:Int) from by omega]
   refine (Sh.strings_Repeat _ n _ (by omega) (by simp [ByteArray.size];omega)).mono ?_
   rintro e w1 ⟨rfl,hb1⟩
   have hd:(⟨(Lib.repeatL (⟨#[46]⟩:ByteArray).data.toList n).toArray⟩:ByteArray)=dots n:=by unfold dots;rw [show (⟨#[46]⟩:ByteArray).data.toList = [(46:UInt8)] from rfl,repeatL_dot]
   rw [hd]
   have hs:(dots n).size=n:=by simp [dots,ByteArray.size]
   have hm:a0.size + (dots n).size≤9223372036854775807:=by rw [hs];omega
   have HB:=Ak hb1
   clear hb1 hd hs
   go_wp2
   go_ret
   exact ⟨by simp,HB.out⟩
  ·rw [if_neg c2] at h
   cases h
end Go.Proofs.Ytmekkapacbdbeaa.P
namespace Go.Proofs.Ytmekkapacbdbeaa.P
open Go.RowKit Go.Proofs.YtmekkapacbdbeaaW.PrintWords Go.Proofs.YtmekkapacbdbeaaW.PrintLast Go.Proofs.YtmekkapacbdbeaaW.PrintMore
attribute [local go_sem] max2_int min2_int max_two min_two max_three min_three max_four min_four 
theorem tw_world_at {Q:World→Prop} {w W0:World} (hb:Below w.heap.size w W0) (h:∀ W,Below w.heap.size w W→Q W):Q W0:=h W0 hb
def impl_TextWrite.f (k:Nat) (a0:ByteArray) (a1:Int) (a2:ByteArray):Option (ByteArray × Bool):=(impl_TextOk.f k a0).bind fun t607=>(if t607=true then (if a1<0 then (some (a0,false)) else (if a1 > 48 then (some (a0,false)) else (if a2.toList=([]:List UInt8) then (some (a0,false)) else ((impl_TextOk.f k a2).bind fun t608=>(if t608=true then (if (wrap64 (a1 + (a2.size:Int))) > 48 then (some (a0,false)) else ((impl_sized.f a0 (mx (a0.size:Int) (wrap64 (a1 + (a2.size:Int))))).bind fun t609=>(if 0≤a1 then (if a1≤(t609.size:Int) then (if (t609.extract 0 (a1:Int).toNat).size + a2.size≤9223372036854775807 then (if 0≤(mn (wrap64 (a1 + (a2.size:Int))) (a0.size:Int)) then (if (mn (wrap64 (a1 + (a2.size:Int))) (a0.size:Int))≤(a0.size:Int) then (if ((t609.extract 0 (a1:Int).toNat) ++ a2).size + (a0.extract ((mn (wrap64 (a1 + (a2.size:Int))) (a0.size:Int)):Int).toNat a0.size).size≤9223372036854775807 then (some (((t609.extract 0 (a1:Int).toNat) ++ a2) ++ (a0.extract ((mn (wrap64 (a1 + (a2.size:Int))) (a0.size:Int)):Int).toNat a0.size),true)) else (none)) else (none)) else (none)) else (none)) else (none)) else (none)))) else (some (a0,false))))))) else (some ((⟨#[]⟩:ByteArray),false)))
def impl_TextWrite.T6:Bool × List (List Nat × List Nat):=(true,[([],[]),([],[]),([1],[1]),([],[]),([2,3],[2,3]),([0,4],[0,4]),([],[]),([5,6],[5,6]),([],[]),([7,8],[7,8]),([],[]),([],[]),([],[]),([12],[12]),([11,13],[11,13]),([10,14],[10,14]),([9,15],[9,15]),([16,5,0,1,2,3,4,5,6,7,8,9,10,11,12,13,14,15,16],[16]),([17,0,1,2,3,4,5,6,7,8,9,10,11,12,13,14,15,16,17],[])])
def impl_TextWrite.B6:List Nat:=[0,0,2,0,14,31,0,127,0,511,0,0,0,4096,14336,31744,65535,131071,262143]
theorem impl_TextWrite.tab6:rtab .any (opsOf Try.f41 6)=impl_TextWrite.T6:=by kernel_rfl
theorem impl_TextWrite.bits6:waitsOk impl_TextWrite.T6.2 impl_TextWrite.B6=true:=by kernel_rfl
theorem impl_TextWrite.calls (k:Nat) (a0:ByteArray) (a1:Int) (a2:ByteArray) (r1:ByteArray) (r2:Bool) (w:World) (h:impl_TextWrite.f k a0 a1 a2=some (r1,r2)) :
  Calls Try.prog 41 #[.string a0,.int .i64 a1,.string a2] w fun e w'=>e = .returned (.tuple #[.string r1,.bool r2])∧Below w.heap.size w w':=by
 have HB:=Ak (Below.refl w.heap.size w)
 have H:((impl_TextOk.f k a0).bind fun t607=>(if t607=true then (if a1<0 then (some (a0,false)) else (if a1 > 48 then (some (a0,false)) else (if a2.toList=([]:List UInt8) then (some (a0,false)) else ((impl_TextOk.f k a2).bind fun t608=>(if t608=true then (if (wrap64 (a1 + (a2.size:Int))) > 48 then (some (a0,false)) else ((impl_sized.f a0 (mx (a0.size:Int) (wrap64 (a1 + (a2.size:Int))))).bind fun t609=>(if 0≤a1 then (if a1≤(t609.size:Int) then (if (t609.extract 0 (a1:Int).toNat).size + a2.size≤9223372036854775807 then (if 0≤(mn (wrap64 (a1 + (a2.size:Int))) (a0.size:Int)) then (if (mn (wrap64 (a1 + (a2.size:Int))) (a0.size:Int))≤(a0.size:Int) then (if ((t609.extract 0 (a1:Int).toNat) ++ a2).size + (a0.extract ((mn (wrap64 (a1 + (a2.size:Int))) (a0.size:Int)):Int).toNat a0.size).size≤9223372036854775807 then (some (((t609.extract 0 (a1:Int).toNat) ++ a2) ++ (a0.extract ((mn (wrap64 (a1 + (a2.size:Int))) (a0.size:Int)):Int).toNat a0.size),true)) else (none)) else (none)) else (none)) else (none)) else (none)) else (none)))) else (some (a0,false))))))) else (some ((⟨#[]⟩:ByteArray),false))))=some (r1,r2):=h
 clear h
 replace H:=Option.bind_eq_some_iff.mp H
 obtain ⟨t607,A40,H⟩:=H
 replace H:(if t607=true then (if a1<0 then (some (a0,false)) else (if a1 > 48 then (some (a0,false)) else (if a2.toList=([]:List UInt8) then (some (a0,false)) else ((impl_TextOk.f k a2).bind fun t608=>(if t608=true then (if (wrap64 (a1 + (a2.size:Int))) > 48 then (some (a0,false)) else ((impl_sized.f a0 (mx (a0.size:Int) (wrap64 (a1 + (a2.size:Int))))).bind fun t609=>(if 0≤a1 then (if a1≤(t609.size:Int) then (if (t609.extract 0 (a1:Int).toNat).size + a2.size≤9223372036854775807 then (if 0≤(mn (wrap64 (a1 + (a2.size:Int))) (a0.size:Int)) then (if (mn (wrap64 (a1 + (a2.size:Int))) (a0.size:Int))≤(a0.size:Int) then (if ((t609.extract 0 (a1:Int).toNat) ++ a2).size + (a0.extract ((mn (wrap64 (a1 + (a2.size:Int))) (a0.size:Int)):Int).toNat a0.size).size≤9223372036854775807 then (some (((t609.extract 0 (a1:Int).toNat) ++ a2) ++ (a0.extract ((mn (wrap64 (a1 + (a2.size:Int))) (a0.size:Int)):Int).toNat a0.size),true)) else (none)) else (none)) else (none)) else (none)) else (none)) else (none)))) else (some (a0,false))))))) else (some ((⟨#[]⟩:ByteArray),false)))=some (r1,r2):=H
 have A4:=Ak A40
 clear A40
 by_cases c5:t607=true
 ·subst c5
  have H1:(if a1<0 then (some (a0,false)) else (if a1 > 48 then (some (a0,false)) else (if a2.toList=([]:List UInt8) then (some (a0,false)) else ((impl_TextOk.f k a2).bind fun t608=>(if t608=true then (if (wrap64 (a1 + (a2.size:Int))) > 48 then (some (a0,false)) else ((impl_sized.f a0 (mx (a0.size:Int) (wrap64 (a1 + (a2.size:Int))))).bind fun t609=>(if 0≤a1 then (if a1≤(t609.size:Int) then (if (t609.extract 0 (a1:Int).toNat).size + a2.size≤9223372036854775807 then (if 0≤(mn (wrap64 (a1 + (a2.size:Int))) (a0.size:Int)) then (if (mn (wrap64 (a1 + (a2.size:Int))) (a0.size:Int))≤(a0.size:Int) then (if ((t609.extract 0 (a1:Int).toNat) ++ a2).size + (a0.extract ((mn (wrap64 (a1 + (a2.size:Int))) (a0.size:Int)):Int).toNat a0.size).size≤9223372036854775807 then (some (((t609.extract 0 (a1:Int).toNat) ++ a2) ++ (a0.extract ((mn (wrap64 (a1 + (a2.size:Int))) (a0.size:Int)):Int).toNat a0.size),true)) else (none)) else (none)) else (none)) else (none)) else (none)) else (none)))) else (some (a0,false)))))))=some (r1,r2):=by rw [if_pos rfl] at H;exact H
  clear H
  have H:=H1
  clear H1
  by_cases c6:a1<0
  ·rw [if_pos c6] at H
   have c6b0:decide (a1<0)=true:=decide_eq_true c6
   clear c6
   simp only [Option.some.injEq,Prod.mk.injEq] at H
   obtain ⟨rfl,rfl⟩:=H
   go_enter Try.func41,Try.ntmps41
   go_wp2_with (first|((with_reducible refine gate_callee (f:=57) rfl ?_);refine goesL_ (some 10) rfl rfl Try.func57 (by kernel_rfl) rfl #[.string a0] rfl (by (try simp only [List.map_toArray,List.map_cons,List.map_nil]);first|done|rfl|(simp only [List.length_drop,List.length_take];rfl)) ?_;(with_reducible refine (impl_TextOk.calls k a0 true _ A4.out).mono ?_);rintro e w' ⟨rfl,⟨nd,rfl⟩⟩;refine ⟨_,rfl,?_⟩))
   go_ret2
   exact ⟨by first|rfl|(simp [errW_none,errW_some] <;> rfl)|(simp [*,errW_none,errW_some] <;> rfl),by repeat (first|(with_reducible first|exact HB.out|apply below_alloc|apply pw_below_drewN|apply below_drew1)|exact HB.out)⟩
  ·rw [if_neg c6] at H
   have c6b0:decide (a1<0)=false:=decide_eq_false c6
   clear c6
   by_cases c7:a1 > 48
   ·rw [if_pos c7] at H
    have c7b0:decide (48<a1)=true:=decide_eq_true c7
    clear c7
    simp only [Option.some.injEq,Prod.mk.injEq] at H
    obtain ⟨rfl,rfl⟩:=H
    go_enter Try.func41,Try.ntmps41
    go_wp2_with (first|((with_reducible refine gate_callee (f:=57) rfl ?_);refine goesL_ (some 10) rfl rfl Try.func57 (by kernel_rfl) rfl #[.string a0] rfl (by (try simp only [List.map_toArray,List.map_cons,List.map_nil]);first|done|rfl|(simp only [List.length_drop,List.length_take];rfl)) ?_;(with_reducible refine (impl_TextOk.calls k a0 true _ A4.out).mono ?_);rintro e w' ⟨rfl,⟨nd,rfl⟩⟩;refine ⟨_,rfl,?_⟩))
    go_ret2
    exact ⟨by first|rfl|(simp [errW_none,errW_some] <;> rfl)|(simp [*,errW_none,errW_some] <;> rfl),by repeat (first|(with_reducible first|exact HB.out|apply below_alloc|apply pw_below_drewN|apply below_drew1)|exact HB.out)⟩
   ·rw [if_neg c7] at H
    have c7b0:decide (48<a1)=false:=decide_eq_false c7
    clear c7
    by_cases c8:a2.toList=([]:List UInt8)
    ·rw [if_pos c8] at H
     have c8b0:(a2.toList == ([]:List UInt8))=true:=beq_iff_eq.mpr c8
     have c8b1:(a2.toList != ([]:List UInt8))=false:=bne_eq_false_iff_eq.mpr c8
     clear c8
     simp only [Option.some.injEq,Prod.mk.injEq] at H
     obtain ⟨rfl,rfl⟩:=H
     go_enter Try.func41,Try.ntmps41
     go_wp2_with (first|((with_reducible refine gate_callee (f:=57) rfl ?_);refine goesL_ (some 10) rfl rfl Try.func57 (by kernel_rfl) rfl #[.string a0] rfl (by (try simp only [List.map_toArray,List.map_cons,List.map_nil]);first|done|rfl|(simp only [List.length_drop,List.length_take];rfl)) ?_;(with_reducible refine (impl_TextOk.calls k a0 true _ A4.out).mono ?_);rintro e w' ⟨rfl,⟨nd,rfl⟩⟩;refine ⟨_,rfl,?_⟩))
     go_ret2
     exact ⟨by first|rfl|(simp [errW_none,errW_some] <;> rfl)|(simp [*,errW_none,errW_some] <;> rfl),by repeat (first|(with_reducible first|exact HB.out|apply below_alloc|apply pw_below_drewN|apply below_drew1)|exact HB.out)⟩
    ·rw [if_neg c8] at H
     have c8b0:(a2.toList == ([]:List UInt8))=false:=beq_eq_false_iff_ne.mpr c8
     have c8b1:(a2.toList != ([]:List UInt8))=true:=bne_iff_ne.mpr c8
     replace H:=Option.bind_eq_some_iff.mp H
     obtain ⟨t608,A90,H⟩:=H
     replace H:(if t608=true then (if (wrap64 (a1 + (a2.size:Int))) > 48 then (some (a0,false)) else ((impl_sized.f a0 (mx (a0.size:Int) (wrap64 (a1 + (a2.size:Int))))).bind fun t609=>(if 0≤a1 then (if a1≤(t609.size:Int) then (if (t609.extract 0 (a1:Int).toNat).size + a2.size≤9223372036854775807 then (if 0≤(mn (wrap64 (a1 + (a2.size:Int))) (a0.size:Int)) then (if (mn (wrap64 (a1 + (a2.size:Int))) (a0.size:Int))≤(a0.size:Int) then (if ((t609.extract 0 (a1:Int).toNat) ++ a2).size + (a0.extract ((mn (wrap64 (a1 + (a2.size:Int))) (a0.size:Int)):Int).toNat a0.size).size≤9223372036854775807 then (some (((t609.extract 0 (a1:Int).toNat) ++ a2) ++ (a0.extract ((mn (wrap64 (a1 + (a2.size:Int))) (a0.size:Int)):Int).toNat a0.size),true)) else (none)) else (none)) else (none)) else (none)) else (none)) else (none)))) else (some (a0,false)))=some (r1,r2):=H
     have A9:=Ak A90
     clear A90
     by_cases c10:t608=true
     ·subst c10
      have H1:(if (wrap64 (a1 + (a2.size:Int))) > 48 then (some (a0,false)) else ((impl_sized.f a0 (mx (a0.size:Int) (wrap64 (a1 + (a2.size:Int))))).bind fun t609=>(if 0≤a1 then (if a1≤(t609.size:Int) then (if (t609.extract 0 (a1:Int).toNat).size + a2.size≤9223372036854775807 then (if 0≤(mn (wrap64 (a1 + (a2.size:Int))) (a0.size:Int)) then (if (mn (wrap64 (a1 + (a2.size:Int))) (a0.size:Int))≤(a0.size:Int) then (if ((t609.extract 0 (a1:Int).toNat) ++ a2).size + (a0.extract ((mn (wrap64 (a1 + (a2.size:Int))) (a0.size:Int)):Int).toNat a0.size).size≤9223372036854775807 then (some (((t609.extract 0 (a1:Int).toNat) ++ a2) ++ (a0.extract ((mn (wrap64 (a1 + (a2.size:Int))) (a0.size:Int)):Int).toNat a0.size),true)) else (none)) else (none)) else (none)) else (none)) else (none)) else (none))))=some (r1,r2):=by rw [if_pos rfl] at H;exact H
      clear H
      have H:=H1
      clear H1
      by_cases c11:(wrap64 (a1 + (a2.size:Int))) > 48
      ·rw [if_pos c11] at H
       have c11b0:decide (48<(wrap64 (a1 + (a2.size:Int))))=true:=decide_eq_true c11
       clear c11
       simp only [Option.some.injEq,Prod.mk.injEq] at H
       obtain ⟨rfl,rfl⟩:=H
       go_enter Try.func41,Try.ntmps41
       go_wp2_with (first|((with_reducible refine gate_callee (f:=57) rfl ?_);refine goesL_ (some 10) rfl rfl Try.func57 (by kernel_rfl) rfl #[.string a0] rfl (by (try simp only [List.map_toArray,List.map_cons,List.map_nil]);first|done|rfl|(simp only [List.length_drop,List.length_take];rfl)) ?_;(with_reducible refine (impl_TextOk.calls k a0 true _ A4.out).mono ?_);rintro e w' ⟨rfl,⟨nd,rfl⟩⟩;refine ⟨_,rfl,?_⟩)|(go_at_call 57;(with_reducible refine (impl_TextOk.calls k a2 true _ A9.out).mono ?_);rintro e w' ⟨rfl,⟨nd,rfl⟩⟩))
       go_ret2
       exact ⟨by first|rfl|(simp [errW_none,errW_some] <;> rfl)|(simp [*,errW_none,errW_some] <;> rfl),by repeat (first|(with_reducible first|exact HB.out|apply below_alloc|apply pw_below_drewN|apply below_drew1)|exact HB.out)⟩
      ·rw [if_neg c11] at H
       have c11b0:decide (48<(wrap64 (a1 + (a2.size:Int))))=false:=decide_eq_false c11
       clear c11
       obtain ⟨ji12,hji12⟩:∃ j_:Int,(mx (a0.size:Int) (wrap64 (a1 + (a2.size:Int))))=j_:=⟨_,rfl⟩
       replace H:((impl_sized.f a0 (ji12)).bind fun t609=>(if 0≤a1 then (if a1≤(t609.size:Int) then (if (t609.extract 0 (a1:Int).toNat).size + a2.size≤9223372036854775807 then (if 0≤(mn (wrap64 (a1 + (a2.size:Int))) (a0.size:Int)) then (if (mn (wrap64 (a1 + (a2.size:Int))) (a0.size:Int))≤(a0.size:Int) then (if ((t609.extract 0 (a1:Int).toNat) ++ a2).size + (a0.extract ((mn (wrap64 (a1 + (a2.size:Int))) (a0.size:Int)):Int).toNat a0.size).size≤9223372036854775807 then (some (((t609.extract 0 (a1:Int).toNat) ++ a2) ++ (a0.extract ((mn (wrap64 (a1 + (a2.size:Int))) (a0.size:Int)):Int).toNat a0.size),true)) else (none)) else (none)) else (none)) else (none)) else (none)) else (none)))=some (r1,r2):=by first|(rw [hji12] at H;exact H)|(simp only [hji12] at H ⊢;exact H)
       (try rw [hji12] at A4)
       (try rw [hji12] at A9)
       (try (have hji12l:0≤ji12:=by (rw [← hji12];unfold mx;(repeat' split) <;> omega)))
       (try (have hji12m:0≤ji12:=by omega))
       have hji12_:(if (a0.size:Int)<(wrap64 (a1 + (a2.size:Int))) then (wrap64 (a1 + (a2.size:Int))) else (a0.size:Int))=ji12:=hji12
       replace H:=Option.bind_eq_some_iff.mp H
       obtain ⟨t609,A130,H⟩:=H
       replace H:(if 0≤a1 then (if a1≤(t609.size:Int) then (if (t609.extract 0 (a1:Int).toNat).size + a2.size≤9223372036854775807 then (if 0≤(mn (wrap64 (a1 + (a2.size:Int))) (a0.size:Int)) then (if (mn (wrap64 (a1 + (a2.size:Int))) (a0.size:Int))≤(a0.size:Int) then (if ((t609.extract 0 (a1:Int).toNat) ++ a2).size + (a0.extract ((mn (wrap64 (a1 + (a2.size:Int))) (a0.size:Int)):Int).toNat a0.size).size≤9223372036854775807 then (some (((t609.extract 0 (a1:Int).toNat) ++ a2) ++ (a0.extract ((mn (wrap64 (a1 + (a2.size:Int))) (a0.size:Int)):Int).toNat a0.size),true)) else (none)) else (none)) else (none)) else (none)) else (none)) else (none))=some (r1,r2):=H
       have A13:=Ak A130
       clear A130
       by_cases c14:0≤a1
       ·rw [if_pos c14] at H
        have c14b0:=eq_true c14
        have c14b1:decide (0≤a1)=true:=decide_eq_true c14
        clear c14
        by_cases c15:a1≤(t609.size:Int)
        ·rw [if_pos c15] at H
         have c15b0:=eq_true c15
         have c15b1:decide (a1≤(t609.size:Int))=true:=decide_eq_true c15
         clear c15
         by_cases c16:(t609.extract 0 (a1:Int).toNat).size + a2.size≤9223372036854775807
         ·rw [if_pos c16] at H
          have c16b0:=eq_true c16
          have c16b1:decide ((t609.extract 0 (a1:Int).toNat).size + a2.size≤9223372036854775807)=true:=decide_eq_true c16
          try have c16b2:(9223372036854775807<(t609.extract 0 (a1:Int).toNat).size + a2.size)=False:=eq_false (Nat.not_lt.2 c16)
          obtain ⟨ji17,hji17⟩:∃ j_:Int,(mn (wrap64 (a1 + (a2.size:Int))) (a0.size:Int))=j_:=⟨_,rfl⟩
          replace H:(if 0≤(ji17) then (if (ji17)≤(a0.size:Int) then (if ((t609.extract 0 (a1:Int).toNat) ++ a2).size + (a0.extract ((ji17):Int).toNat a0.size).size≤9223372036854775807 then (some (((t609.extract 0 (a1:Int).toNat) ++ a2) ++ (a0.extract ((ji17):Int).toNat a0.size),true)) else (none)) else (none)) else (none))=some (r1,r2):=by first|(rw [hji17] at H;exact H)|(simp only [hji17] at H ⊢;exact H)
          (try rw [hji17] at A4)
          (try rw [hji17] at A9)
          (try rw [hji17] at A13)
          have hji17_:(if (a0.size:Int)<(wrap64 (a1 + (a2.size:Int))) then (a0.size:Int) else (wrap64 (a1 + (a2.size:Int))))=ji17:=hji17
          by_cases c18:0≤(ji17)
          ·rw [if_pos c18] at H
           have c18b0:=eq_true c18
           have c18b1:decide (0≤(ji17))=true:=decide_eq_true c18
           clear c18
           by_cases c19:(ji17)≤(a0.size:Int)
           ·rw [if_pos c19] at H
            have c19b0:=eq_true c19
            have c19b1:decide ((ji17)≤(a0.size:Int))=true:=decide_eq_true c19
            clear c19
            by_cases c20:((t609.extract 0 (a1:Int).toNat) ++ a2).size + (a0.extract ((ji17):Int).toNat a0.size).size≤9223372036854775807
            ·rw [if_pos c20] at H
             have c20b0:=eq_true c20
             have c20b1:decide (((t609.extract 0 (a1:Int).toNat) ++ a2).size + (a0.extract ((ji17):Int).toNat a0.size).size≤9223372036854775807)=true:=decide_eq_true c20
             try have c20b2:(9223372036854775807<((t609.extract 0 (a1:Int).toNat) ++ a2).size + (a0.extract ((ji17):Int).toNat a0.size).size)=False:=eq_false (Nat.not_lt.2 c20)
             simp only [Option.some.injEq,Prod.mk.injEq] at H
             obtain ⟨rfl,rfl⟩:=H
             go_enter Try.func41,Try.ntmps41
             try go_wp2_with (first|((with_reducible refine gate_callee (f:=57) rfl ?_);refine goesL_ (some 10) rfl rfl Try.func57 (by kernel_rfl) rfl #[.string a0] rfl (by (try simp only [List.map_toArray,List.map_cons,List.map_nil]);first|done|rfl|(simp only [List.length_drop,List.length_take];rfl)) ?_;(with_reducible refine (impl_TextOk.calls k a0 true _ A4.out).mono ?_);rintro e w' ⟨rfl,⟨nd,rfl⟩⟩;refine ⟨_,rfl,?_⟩)|(go_at_call 57;(with_reducible refine (impl_TextOk.calls k a2 true _ A9.out).mono ?_);rintro e w' ⟨rfl,⟨nd,rfl⟩⟩))
             have hz1:(9223372036854775807<a1.toNat + a2.size)=False:=eq_false (by have h1:=c16;have h2:=of_eq_true c15b0;rw [ByteArray.size_extract] at h1;omega)
             have hz2:(9223372036854775807<a1.toNat + a2.size + (a0.size - ji17.toNat))=False:=eq_false (by have h1:=c20;have h2:=of_eq_true c15b0;have h3:=of_eq_true c19b0;rw [ByteArray.size_append,ByteArray.size_extract,ByteArray.size_extract] at h1;omega)
             refine start_ (n:=19) (S:=fun w'=>True) (ds:=[]) #[false,false,false,false,false,false,false,false,false,false,false,false,false,false,false,false,false,false,false] (by kernel_rfl) rfl rfl trivial (fun hHeld=>?_);refine with_tabW impl_TextWrite.tab6 impl_TextWrite.bits6 (fun HT_ HW_=>?_)
             refine tw_world_at (w:=w) (by repeat (first|(with_reducible first|exact HB.out|apply below_alloc|apply pw_below_drewN|apply below_drew1)|exact HB.out)) (fun w21 HBn_=>?_)
             clear HB hHeld
             have hHeld:True:=trivial
             have HB:=Ak HBn_
             clear HBn_
             refine pure_ (i:=0) (N:=some 39) (v:=?_) (a':=?_) #[T0,F0,F0,F0,F0,F0,F0,F0,F0,F0,F0,F0,F0,F0,F0,F0,F0,F0,F0] rfl rfl (any_of HT_.out (by kernel_rfl)) (fun _ _ _ h=>h) (Or.inl ⟨by rfl,?_⟩) ?_ ?_
             rotate_left
             ·intro w'
              go_simp
              with_reducible rfl
             rotate_left
             ·simp only [Act.put,zzA,zzB,zzC,i64_w,i32_w]
              rfl
             refine pure_ (i:=1) (N:=some 40) (v:=?_) (a':=?_) #[T0,T0,F0,F0,F0,F0,F0,F0,F0,F0,F0,F0,F0,F0,F0,F0,F0,F0,F0] rfl rfl (any_of HT_.out (by kernel_rfl)) (fun _ _ _ h=>h) (Or.inl ⟨by rfl,?_⟩) ?_ ?_
             rotate_left
             ·intro w'
              go_simp
              with_reducible rfl
             rotate_left
             ·simp only [Act.put,zzA,zzB,zzC,i64_w,i32_w]
              rfl
             refine pure_ (i:=2) (N:=some 41) (v:=?_) (a':=?_) #[T0,T0,T0,F0,F0,F0,F0,F0,F0,F0,F0,F0,F0,F0,F0,F0,F0,F0,F0] rfl rfl (any_of HT_.out (by kernel_rfl)) (fun _ _ _ h=>h) (Or.inl ⟨by rfl,?_⟩) ?_ ?_
             rotate_left
             ·intro w'
              go_simp
              with_reducible rfl
             rotate_left
             ·simp only [Act.put,zzA,zzB,zzC,i64_w,i32_w]
              rfl
             refine pure_ (i:=3) (N:=some 42) (v:=?_) (a':=?_) #[T0,T0,T0,T0,F0,F0,F0,F0,F0,F0,F0,F0,F0,F0,F0,F0,F0,F0,F0] rfl rfl (any_of HT_.out (by kernel_rfl)) (fun _ _ _ h=>h) (Or.inl ⟨by rfl,?_⟩) ?_ ?_
             rotate_left
             ·intro w'
              go_simp
              with_reducible rfl
             rotate_left
             ·simp only [Act.put,zzA,zzB,zzC,i64_w,i32_w]
              rfl
             refine pure_ (i:=4) (N:=some 43) (v:=?_) (a':=?_) #[T0,T0,T0,T0,T0,F0,F0,F0,F0,F0,F0,F0,F0,F0,F0,F0,F0,F0,F0] rfl rfl (any_of HT_.out (by kernel_rfl)) (fun _ _ _ h=>h) (Or.inl ⟨by rfl,?_⟩) ?_ ?_
             rotate_left
             ·intro w'
              go_simp
              with_reducible rfl
             rotate_left
             ·simp only [Act.put,zzA,zzB,zzC,i64_w,i32_w]
              rfl
             refine pure_ (i:=6) (N:=some 45) (v:=?_) (a':=?_) #[T0,T0,T0,T0,T0,F0,T0,F0,F0,F0,F0,F0,F0,F0,F0,F0,F0,F0,F0] rfl rfl (any_of HT_.out (by kernel_rfl)) (fun _ _ _ h=>h) (Or.inl ⟨by rfl,?_⟩) ?_ ?_
             rotate_left
             ·intro w'
              go_simp
              with_reducible rfl
             rotate_left
             ·simp only [Act.put,zzA,zzB,zzC,i64_w,i32_w]
              rfl
             refine pure_ (i:=8) (N:=some 47) (v:=?_) (a':=?_) #[T0,T0,T0,T0,T0,F0,T0,F0,T0,F0,F0,F0,F0,F0,F0,F0,F0,F0,F0] rfl rfl (any_of HT_.out (by kernel_rfl)) (fun _ _ _ h=>h) (Or.inl ⟨by rfl,?_⟩) ?_ ?_
             rotate_left
             ·intro w'
              go_simp
              with_reducible rfl
             rotate_left
             ·simp only [Act.put,zzA,zzB,zzC,i64_w,i32_w]
              rfl
             refine pure_ (i:=10) (N:=some 49) (v:=?_) (a':=?_) #[T0,T0,T0,T0,T0,F0,T0,F0,T0,F0,T0,F0,F0,F0,F0,F0,F0,F0,F0] rfl rfl (any_of HT_.out (by kernel_rfl)) (fun _ _ _ h=>h) (Or.inl ⟨by rfl,?_⟩) ?_ ?_
             rotate_left
             ·intro w'
              go_simp
              with_reducible rfl
             rotate_left
             ·simp only [Act.put,zzA,zzB,zzC,i64_w,i32_w]
              rfl
             refine pure_ (i:=11) (N:=some 50) (v:=?_) (a':=?_) #[T0,T0,T0,T0,T0,F0,T0,F0,T0,F0,T0,T0,F0,F0,F0,F0,F0,F0,F0] rfl rfl (any_of HT_.out (by kernel_rfl)) (fun _ _ _ h=>h) (Or.inl ⟨by rfl,?_⟩) ?_ ?_
             rotate_left
             ·intro w'
              go_simp
              with_reducible rfl
             rotate_left
             ·simp only [Act.put,zzA,zzB,zzC,i64_w,i32_w]
              rfl
             refine pure_ (i:=12) (N:=some 51) (v:=?_) (a':=?_) #[T0,T0,T0,T0,T0,F0,T0,F0,T0,F0,T0,T0,T0,F0,F0,F0,F0,F0,F0] rfl rfl (any_of HT_.out (by kernel_rfl)) (fun _ _ _ h=>h) (Or.inl ⟨by rfl,?_⟩) ?_ ?_
             rotate_left
             ·intro w'
              go_simp
              with_reducible rfl
             rotate_left
             ·simp only [Act.put,zzA,zzB,zzC,i64_w,i32_w]
              rfl
             refine pure_ (i:=13) (N:=some 52) (v:=?_) (a':=?_) #[T0,T0,T0,T0,T0,F0,T0,F0,T0,F0,T0,T0,T0,T0,F0,F0,F0,F0,F0] rfl rfl (any_of HT_.out (by kernel_rfl)) (fun _ _ _ h=>h) (Or.inl ⟨by rfl,?_⟩) ?_ ?_
             rotate_left
             ·intro w'
              go_simp
              with_reducible rfl
             rotate_left
             ·simp only [Act.put,zzA,zzB,zzC,i64_w,i32_w]
              rfl
             refine pure_ (i:=14) (N:=some 53) (v:=?_) (a':=?_) #[T0,T0,T0,T0,T0,F0,T0,F0,T0,F0,T0,T0,T0,T0,T0,F0,F0,F0,F0] rfl rfl (any_of HT_.out (by kernel_rfl)) (fun _ _ _ h=>h) (Or.inl ⟨by rfl,?_⟩) ?_ ?_
             rotate_left
             ·intro w'
              go_simp
              with_reducible rfl
             rotate_left
             ·simp only [Act.put,zzA,zzB,zzC,i64_w,i32_w]
              rfl
             refine pure_ (i:=15) (N:=some 54) (v:=?_) (a':=?_) #[T0,T0,T0,T0,T0,F0,T0,F0,T0,F0,T0,T0,T0,T0,T0,T0,F0,F0,F0] rfl rfl (any_of HT_.out (by kernel_rfl)) (fun _ _ _ h=>h) (Or.inl ⟨by rfl,?_⟩) ?_ ?_
             rotate_left
             ·intro w'
              go_simp
              with_reducible rfl
             rotate_left
             ·simp only [Act.put,zzA,zzB,zzC,i64_w,i32_w]
              rfl
             refine one_ (i:=5) (N:=some 44) #[T0,T0,T0,T0,T0,T0,T0,F0,T0,F0,T0,T0,T0,T0,T0,T0,F0,F0,F0] rfl rfl (one_of HT_.out (by kernel_rfl)) (by decide) (fun K hK=>?_)
             refine goes_ Try.func69 (by kernel_rfl) rfl #[.string a0,.int .i64 ji12] (by rfl) rfl rfl (by (try simp only [List.map_toArray,List.map_cons,List.map_nil]);first|done|(simp only [hji12];rfl)|rfl|(simp only [List.length_drop,List.length_take];rfl)) ?_
             with_reducible refine (impl_sized.calls a0 ji12 t609 _ A13.out).mono ?_
             rintro e w22 ⟨rfl,hb⟩
             refine ⟨_,rfl,?_⟩
             have n0_:=Ak (below_step (by repeat (first|(with_reducible first|exact HB.out|apply below_alloc|apply pw_below_drewN|apply below_drew1)|exact HB.out)) hb)
             clear HB
             have HB:=n0_
             clear n0_
             (try clear hb)
             (try clear hb2)
             (try clear hk)
             (try clear hi)
             refine hK.out _ _ trivial (fun hHeld=>?_)
             clear hK K
             refine norm_ (a':=?_) ?_ ?_
             rotate_left
             ·show Act.put _ (some 44) _=_
              simp only [Act.put,zzA,zzB,zzC,i64_w,i32_w]
              rfl
             refine pure_ (i:=7) (N:=some 46) (v:=?_) (a':=?_) #[T0,T0,T0,T0,T0,T0,T0,T0,T0,F0,T0,T0,T0,T0,T0,T0,F0,F0,F0] rfl rfl (any_of HT_.out (by kernel_rfl)) (fun _ _ _ h=>h) (Or.inl ⟨by rfl,?_⟩) ?_ ?_
             rotate_left
             ·intro w'
              go_simp
              with_reducible rfl
             rotate_left
             ·simp only [Act.put,zzA,zzB,zzC,i64_w,i32_w]
              rfl
             refine pure_ (i:=9) (N:=some 48) (v:=?_) (a':=?_) #[T0,T0,T0,T0,T0,T0,T0,T0,T0,T0,T0,T0,T0,T0,T0,T0,F0,F0,F0] rfl rfl (any_of HT_.out (by kernel_rfl)) (fun _ _ _ h=>h) (Or.inl ⟨by rfl,?_⟩) ?_ ?_
             rotate_left
             ·intro w'
              go_simp
              with_reducible rfl
             rotate_left
             ·simp only [Act.put,zzA,zzB,zzC,i64_w,i32_w]
              rfl
             refine pure_ (i:=16) (N:=some 55) (v:=?_) (a':=?_) #[T0,T0,T0,T0,T0,T0,T0,T0,T0,T0,T0,T0,T0,T0,T0,T0,T0,F0,F0] rfl rfl (any_of HT_.out (by kernel_rfl)) (fun _ _ _ h=>h) (Or.inl ⟨by rfl,?_⟩) ?_ ?_
             rotate_left
             ·intro w'
              go_simp
              with_reducible rfl
             rotate_left
             ·simp only [Act.put,zzA,zzB,zzC,i64_w,i32_w]
              rfl
             refine pure_ (i:=17) (N:=some 6) (v:=?_) (a':=?_) #[T0,T0,T0,T0,T0,T0,T0,T0,T0,T0,T0,T0,T0,T0,T0,T0,T0,T0,F0] rfl rfl (any_of HT_.out (by kernel_rfl)) (fun _ _ _ h=>h) (Or.inl ⟨by rfl,?_⟩) ?_ ?_
             rotate_left
             ·intro w'
              go_simp
              with_reducible rfl
             rotate_left
             ·simp only [Act.put,zzA,zzB,zzC,i64_w,i32_w]
              rfl
             refine pure_ (i:=18) (N:=some 7) (v:=?_) (a':=?_) #[T0,T0,T0,T0,T0,T0,T0,T0,T0,T0,T0,T0,T0,T0,T0,T0,T0,T0,T0] rfl rfl (any_of HT_.out (by kernel_rfl)) (fun _ _ _ h=>h) (Or.inl ⟨by rfl,?_⟩) ?_ ?_
             rotate_left
             ·intro w'
              go_simp
              with_reducible rfl
             rotate_left
             ·simp only [Act.put,zzA,zzB,zzC,i64_w,i32_w]
              rfl
             refine done_ (done_of HT_.out (by kernel_rfl)) ?_
             try go_wp2
             go_ret2
             exact ⟨by first|rfl|(simp [errW_none,errW_some] <;> rfl)|(simp only [← hji12,← hji17];first|rfl|(simp [errW_none,errW_some] <;> rfl))|(simp [*,errW_none,errW_some] <;> rfl),by repeat (first|(with_reducible first|exact HB.out|apply below_alloc|apply pw_below_drewN|apply below_drew1)|exact HB.out)⟩
            ·rw [if_neg c20] at H
             exact absurd H (by simp)
           ·rw [if_neg c19] at H
            exact absurd H (by simp)
          ·rw [if_neg c18] at H
           exact absurd H (by simp)
         ·rw [if_neg c16] at H
          exact absurd H (by simp)
        ·rw [if_neg c15] at H
         exact absurd H (by simp)
       ·rw [if_neg c14] at H
        exact absurd H (by simp)
     ·replace c10:=Bool.eq_false_iff.mpr c10
      subst c10
      have H1:(some (a0,false))=some (r1,r2):=by rw [if_neg (show ¬ (false=true) by decide)] at H;exact H
      clear H
      have H:=H1
      clear H1
      simp only [Option.some.injEq,Prod.mk.injEq] at H
      obtain ⟨rfl,rfl⟩:=H
      go_enter Try.func41,Try.ntmps41
      go_wp2_with (first|((with_reducible refine gate_callee (f:=57) rfl ?_);refine goesL_ (some 10) rfl rfl Try.func57 (by kernel_rfl) rfl #[.string a0] rfl (by (try simp only [List.map_toArray,List.map_cons,List.map_nil]);first|done|rfl|(simp only [List.length_drop,List.length_take];rfl)) ?_;(with_reducible refine (impl_TextOk.calls k a0 true _ A4.out).mono ?_);rintro e w' ⟨rfl,⟨nd,rfl⟩⟩;refine ⟨_,rfl,?_⟩)|(go_at_call 57;(with_reducible refine (impl_TextOk.calls k a2 false _ A9.out).mono ?_);rintro e w' ⟨rfl,⟨nd,rfl⟩⟩))
      go_ret2
      exact ⟨by first|rfl|(simp [errW_none,errW_some] <;> rfl)|(simp [*,errW_none,errW_some] <;> rfl),by repeat (first|(with_reducible first|exact HB.out|apply below_alloc|apply pw_below_drewN|apply below_drew1)|exact HB.out)⟩
 ·replace c5:=Bool.eq_false_iff.mpr c5
  subst c5
  have H1:(some ((⟨#[]⟩:ByteArray),false))=some (r1,r2):=by rw [if_neg (show ¬ (false=true) by decide)] at H;exact H
  clear H
  have H:=H1
  clear H1
  simp only [Option.some.injEq,Prod.mk.injEq] at H
  obtain ⟨rfl,rfl⟩:=H
  go_enter Try.func41,Try.ntmps41
  go_wp2_with (first|((with_reducible refine gate_callee (f:=57) rfl ?_);refine goesL_ (some 10) rfl rfl Try.func57 (by kernel_rfl) rfl #[.string a0] rfl (by (try simp only [List.map_toArray,List.map_cons,List.map_nil]);first|done|rfl|(simp only [List.length_drop,List.length_take];rfl)) ?_;(with_reducible refine (impl_TextOk.calls k a0 false _ A4.out).mono ?_);rintro e w' ⟨rfl,⟨nd,rfl⟩⟩;refine ⟨_,rfl,?_⟩))
  go_ret2
  exact ⟨by first|rfl|(simp [errW_none,errW_some] <;> rfl)|(simp [*,errW_none,errW_some] <;> rfl),by repeat (first|(with_reducible first|exact HB.out|apply below_alloc|apply pw_below_drewN|apply below_drew1)|exact HB.out)⟩
def spec_l5Req.f (k:Nat) (a0_0:Int) (a0_1:Int) (a0_2:Int) (a0_3:Int) (a0_4:Int) (a0_5:ByteArray):Option (Bool):=(spec_l4Who.f a0_0).bind fun t276=>(if t276=true then (if a0_1<0 then (some false) else (if a0_1 > 100 then (some false) else (if a0_2<1 then (some false) else (if a0_2 > 1000 then (some false) else (if a0_3<0 then (some false) else (if a0_3 ≥ 3 then (some false) else (if a0_4 ≥ 0 then (if a0_4≤48 then ((spec_TextOk.f k a0_5).bind fun t277=>(if t277=true then (if a0_5.toList=([]:List UInt8) then (some false) else (some (decide ((wrap64 (a0_4 + (a0_5.size:Int)))≤48)))) else (some false))) else (some false)) else (some false)))))))) else (some false))
theorem spec_l5Req.calls (k:Nat) (a0_0:Int) (a0_1:Int) (a0_2:Int) (a0_3:Int) (a0_4:Int) (a0_5:ByteArray) (r:Bool) (w:World) (h:spec_l5Req.f k a0_0 a0_1 a0_2 a0_3 a0_4 a0_5=some r) :
  Calls Try.prog 73 #[.agg #[.int .i64 a0_0,.int .i64 a0_1,.int .i64 a0_2,.int .i64 a0_3,.int .i64 a0_4,.string a0_5]] w fun e w'=>e = .returned (.bool r)∧Below w.heap.size w w':=by
 have hu52:=Try.underlying52
 have HB:=Ak (Below.refl w.heap.size w)
 have H:((spec_l4Who.f a0_0).bind fun t276=>(if t276=true then (if a0_1<0 then (some false) else (if a0_1 > 100 then (some false) else (if a0_2<1 then (some false) else (if a0_2 > 1000 then (some false) else (if a0_3<0 then (some false) else (if a0_3 ≥ 3 then (some false) else (if a0_4 ≥ 0 then (if a0_4≤48 then ((spec_TextOk.f k a0_5).bind fun t277=>(if t277=true then (if a0_5.toList=([]:List UInt8) then (some false) else (some (decide ((wrap64 (a0_4 + (a0_5.size:Int)))≤48)))) else (some false))) else (some false)) else (some false)))))))) else (some false)))=some r:=h
 clear h
 replace H:=Option.bind_eq_some_iff.mp H
 obtain ⟨t276,A20,H⟩:=H
 replace H:(if t276=true then (if a0_1<0 then (some false) else (if a0_1 > 100 then (some false) else (if a0_2<1 then (some false) else (if a0_2 > 1000 then (some false) else (if a0_3<0 then (some false) else (if a0_3 ≥ 3 then (some false) else (if a0_4 ≥ 0 then (if a0_4≤48 then ((spec_TextOk.f k a0_5).bind fun t277=>(if t277=true then (if a0_5.toList=([]:List UInt8) then (some false) else (some (decide ((wrap64 (a0_4 + (a0_5.size:Int)))≤48)))) else (some false))) else (some false)) else (some false)))))))) else (some false))=some r:=H
 have A2:=Ak A20
 clear A20
 by_cases c3:t276=true
 ·subst c3
  have H1:(if a0_1<0 then (some false) else (if a0_1 > 100 then (some false) else (if a0_2<1 then (some false) else (if a0_2 > 1000 then (some false) else (if a0_3<0 then (some false) else (if a0_3 ≥ 3 then (some false) else (if a0_4 ≥ 0 then (if a0_4≤48 then ((spec_TextOk.f k a0_5).bind fun t277=>(if t277=true then (if a0_5.toList=([]:List UInt8) then (some false) else (some (decide ((wrap64 (a0_4 + (a0_5.size:Int)))≤48)))) else (some false))) else (some false)) else (some false))))))))=some r:=by rw [if_pos rfl] at H;exact H
  clear H
  have H:=H1
  clear H1
  by_cases c4:a0_1<0
  ·rw [if_pos c4] at H
   have c4b0:decide (a0_1<0)=true:=decide_eq_true c4
   clear c4
   obtain rfl:=Option.some.inj H
   go_enter Try.func73,Try.ntmps73
   go_wp2_with (first|((with_reducible refine gate_dst (N:=1) rfl ?_);(try (refine gate_guard (by rfl) ?_;dsimp only));refine box_event ?hg (N:=1) ?hd (cs:=#[.int .i64 a0_0,.int .i64 a0_1,.int .i64 a0_2,.int .i64 a0_3,.int .i64 a0_4,.string a0_5]) (t:=52) ?hr ?_;(case hd=>rfl);(case hg=>rfl);(case hr=>first|(go_simp;done)|(go_simp;rfl));intro gb275 hg w5 hbox hb;have n0_:=Ak (below_step (by repeat (first|(with_reducible first|exact HB.out|apply below_alloc|apply pw_below_drewN|apply below_drew1)|exact HB.out)) hb);have n1_:=Ak (hbox);have n2_:=Ak ((by rw [hg];exact (below_size (by repeat (first|(with_reducible first|exact HB.out|apply below_alloc|apply pw_below_drewN|apply below_drew1)|exact HB.out))):w.heap.size≤gb275));have n3_:=Ak ((by rw [hg];exact (below_size (by repeat (first|(with_reducible first|exact HB.out|apply below_alloc|apply pw_below_drewN|apply below_drew1)|exact HB.out))):w.heap.size≤gb275));clear HB;have HB:=n0_;have BK275:=n1_;have GW275:=n2_;have GE275:=n3_;clear n0_ n1_ n2_ n3_;clear hb hbox hg;have hcz6_0:w5.cell? ⟨gb275,0,none⟩=some (.int .i64 a0_0):=(blk_cell BK275.out 0).trans rfl;have hcz6_1:w5.cell? ⟨gb275,1,none⟩=some (.int .i64 a0_1):=(blk_cell BK275.out 1).trans rfl;have hcz6_2:w5.cell? ⟨gb275,2,none⟩=some (.int .i64 a0_2):=(blk_cell BK275.out 2).trans rfl;have hcz6_3:w5.cell? ⟨gb275,3,none⟩=some (.int .i64 a0_3):=(blk_cell BK275.out 3).trans rfl;have hcz6_4:w5.cell? ⟨gb275,4,none⟩=some (.int .i64 a0_4):=(blk_cell BK275.out 4).trans rfl;have hcz6_5:w5.cell? ⟨gb275,5,none⟩=some (.string a0_5):=(blk_cell BK275.out 5).trans rfl;have hfz6_0:=blk_frozen BK275.out 0;have hfz6_1:=blk_frozen BK275.out 1;have hfz6_2:=blk_frozen BK275.out 2;have hfz6_3:=blk_frozen BK275.out 3;have hfz6_4:=blk_frozen BK275.out 4;have hfz6_5:=blk_frozen BK275.out 5)|((with_reducible refine gate_callee (f:=71) rfl ?_);refine goesL_ (some 5) rfl rfl Try.func71 (by kernel_rfl) rfl #[.int .i64 a0_0] rfl (by (try simp only [List.map_toArray,List.map_cons,List.map_nil]);first|done|rfl|(simp only [List.length_drop,List.length_take];rfl)) ?_;(with_reducible refine (spec_l4Who.calls a0_0 true _ A2.out).mono ?_);rintro e w' ⟨rfl,⟨nd,rfl⟩⟩;refine ⟨_,rfl,?_⟩))
   go_ret
   exact ⟨by first|rfl|(simp [errW_none,errW_some] <;> rfl)|(simp [*,errW_none,errW_some] <;> rfl),by repeat (first|(with_reducible first|exact HB.out|apply below_alloc|apply pw_below_drewN|apply below_drew1|refine below_set ?_ GE275.out)|exact HB.out)⟩
  ·rw [if_neg c4] at H
   have c4b0:decide (a0_1<0)=false:=decide_eq_false c4
   clear c4
   by_cases c7:a0_1 > 100
   ·rw [if_pos c7] at H
    have c7b0:decide (100<a0_1)=true:=decide_eq_true c7
    clear c7
    obtain rfl:=Option.some.inj H
    go_enter Try.func73,Try.ntmps73
    go_wp2_with (first|((with_reducible refine gate_dst (N:=1) rfl ?_);(try (refine gate_guard (by rfl) ?_;dsimp only));refine box_event ?hg (N:=1) ?hd (cs:=#[.int .i64 a0_0,.int .i64 a0_1,.int .i64 a0_2,.int .i64 a0_3,.int .i64 a0_4,.string a0_5]) (t:=52) ?hr ?_;(case hd=>rfl);(case hg=>rfl);(case hr=>first|(go_simp;done)|(go_simp;rfl));intro gb275 hg w8 hbox hb;have n0_:=Ak (below_step (by repeat (first|(with_reducible first|exact HB.out|apply below_alloc|apply pw_below_drewN|apply below_drew1)|exact HB.out)) hb);have n1_:=Ak (hbox);have n2_:=Ak ((by rw [hg];exact (below_size (by repeat (first|(with_reducible first|exact HB.out|apply below_alloc|apply pw_below_drewN|apply below_drew1)|exact HB.out))):w.heap.size≤gb275));have n3_:=Ak ((by rw [hg];exact (below_size (by repeat (first|(with_reducible first|exact HB.out|apply below_alloc|apply pw_below_drewN|apply below_drew1)|exact HB.out))):w.heap.size≤gb275));clear HB;have HB:=n0_;have BK275:=n1_;have GW275:=n2_;have GE275:=n3_;clear n0_ n1_ n2_ n3_;clear hb hbox hg;have hcz9_0:w8.cell? ⟨gb275,0,none⟩=some (.int .i64 a0_0):=(blk_cell BK275.out 0).trans rfl;have hcz9_1:w8.cell? ⟨gb275,1,none⟩=some (.int .i64 a0_1):=(blk_cell BK275.out 1).trans rfl;have hcz9_2:w8.cell? ⟨gb275,2,none⟩=some (.int .i64 a0_2):=(blk_cell BK275.out 2).trans rfl;have hcz9_3:w8.cell? ⟨gb275,3,none⟩=some (.int .i64 a0_3):=(blk_cell BK275.out 3).trans rfl;have hcz9_4:w8.cell? ⟨gb275,4,none⟩=some (.int .i64 a0_4):=(blk_cell BK275.out 4).trans rfl;have hcz9_5:w8.cell? ⟨gb275,5,none⟩=some (.string a0_5):=(blk_cell BK275.out 5).trans rfl;have hfz9_0:=blk_frozen BK275.out 0;have hfz9_1:=blk_frozen BK275.out 1;have hfz9_2:=blk_frozen BK275.out 2;have hfz9_3:=blk_frozen BK275.out 3;have hfz9_4:=blk_frozen BK275.out 4;have hfz9_5:=blk_frozen BK275.out 5)|((with_reducible refine gate_callee (f:=71) rfl ?_);refine goesL_ (some 5) rfl rfl Try.func71 (by kernel_rfl) rfl #[.int .i64 a0_0] rfl (by (try simp only [List.map_toArray,List.map_cons,List.map_nil]);first|done|rfl|(simp only [List.length_drop,List.length_take];rfl)) ?_;(with_reducible refine (spec_l4Who.calls a0_0 true _ A2.out).mono ?_);rintro e w' ⟨rfl,⟨nd,rfl⟩⟩;refine ⟨_,rfl,?_⟩))
    go_ret
    exact ⟨by first|rfl|(simp [errW_none,errW_some] <;> rfl)|(simp [*,errW_none,errW_some] <;> rfl),by repeat (first|(with_reducible first|exact HB.out|apply below_alloc|apply pw_below_drewN|apply below_drew1|refine below_set ?_ GE275.out)|exact HB.out)⟩
   ·rw [if_neg c7] at H
    have c7b0:decide (100<a0_1)=false:=decide_eq_false c7
    clear c7
    by_cases c10:a0_2<1
    ·rw [if_pos c10] at H
     have c10b0:decide (a0_2<1)=true:=decide_eq_true c10
     clear c10
     obtain rfl:=Option.some.inj H
     go_enter Try.func73,Try.ntmps73
     go_wp2_with (first|((with_reducible refine gate_dst (N:=1) rfl ?_);(try (refine gate_guard (by rfl) ?_;dsimp only));refine box_event ?hg (N:=1) ?hd (cs:=#[.int .i64 a0_0,.int .i64 a0_1,.int .i64 a0_2,.int .i64 a0_3,.int .i64 a0_4,.string a0_5]) (t:=52) ?hr ?_;(case hd=>rfl);(case hg=>rfl);(case hr=>first|(go_simp;done)|(go_simp;rfl));intro gb275 hg w11 hbox hb;have n0_:=Ak (below_step (by repeat (first|(with_reducible first|exact HB.out|apply below_alloc|apply pw_below_drewN|apply below_drew1)|exact HB.out)) hb);have n1_:=Ak (hbox);have n2_:=Ak ((by rw [hg];exact (below_size (by repeat (first|(with_reducible first|exact HB.out|apply below_alloc|apply pw_below_drewN|apply below_drew1)|exact HB.out))):w.heap.size≤gb275));have n3_:=Ak ((by rw [hg];exact (below_size (by repeat (first|(with_reducible first|exact HB.out|apply below_alloc|apply pw_below_drewN|apply below_drew1)|exact HB.out))):w.heap.size≤gb275));clear HB;have HB:=n0_;have BK275:=n1_;have GW275:=n2_;have GE275:=n3_;clear n0_ n1_ n2_ n3_;clear hb hbox hg;have hcz12_0:w11.cell? ⟨gb275,0,none⟩=some (.int .i64 a0_0):=(blk_cell BK275.out 0).trans rfl;have hcz12_1:w11.cell? ⟨gb275,1,none⟩=some (.int .i64 a0_1):=(blk_cell BK275.out 1).trans rfl;have hcz12_2:w11.cell? ⟨gb275,2,none⟩=some (.int .i64 a0_2):=(blk_cell BK275.out 2).trans rfl;have hcz12_3:w11.cell? ⟨gb275,3,none⟩=some (.int .i64 a0_3):=(blk_cell BK275.out 3).trans rfl;have hcz12_4:w11.cell? ⟨gb275,4,none⟩=some (.int .i64 a0_4):=(blk_cell BK275.out 4).trans rfl;have hcz12_5:w11.cell? ⟨gb275,5,none⟩=some (.string a0_5):=(blk_cell BK275.out 5).trans rfl;have hfz12_0:=blk_frozen BK275.out 0;have hfz12_1:=blk_frozen BK275.out 1;have hfz12_2:=blk_frozen BK275.out 2;have hfz12_3:=blk_frozen BK275.out 3;have hfz12_4:=blk_frozen BK275.out 4;have hfz12_5:=blk_frozen BK275.out 5)|((with_reducible refine gate_callee (f:=71) rfl ?_);refine goesL_ (some 5) rfl rfl Try.func71 (by kernel_rfl) rfl #[.int .i64 a0_0] rfl (by (try simp only [List.map_toArray,List.map_cons,List.map_nil]);first|done|rfl|(simp only [List.length_drop,List.length_take];rfl)) ?_;(with_reducible refine (spec_l4Who.calls a0_0 true _ A2.out).mono ?_);rintro e w' ⟨rfl,⟨nd,rfl⟩⟩;refine ⟨_,rfl,?_⟩))
     go_ret
     exact ⟨by first|rfl|(simp [errW_none,errW_some] <;> rfl)|(simp [*,errW_none,errW_some] <;> rfl),by repeat (first|(with_reducible first|exact HB.out|apply below_alloc|apply pw_below_drewN|apply below_drew1|refine below_set ?_ GE275.out)|exact HB.out)⟩
    ·rw [if_neg c10] at H
     have c10b0:decide (a0_2<1)=false:=decide_eq_false c10
     clear c10
     by_cases c13:a0_2 > 1000
     ·rw [if_pos c13] at H
      have c13b0:decide (1000<a0_2)=true:=decide_eq_true c13
      clear c13
      obtain rfl:=Option.some.inj H
      go_enter Try.func73,Try.ntmps73
      go_wp2_with (first|((with_reducible refine gate_dst (N:=1) rfl ?_);(try (refine gate_guard (by rfl) ?_;dsimp only));refine box_event ?hg (N:=1) ?hd (cs:=#[.int .i64 a0_0,.int .i64 a0_1,.int .i64 a0_2,.int .i64 a0_3,.int .i64 a0_4,.string a0_5]) (t:=52) ?hr ?_;(case hd=>rfl);(case hg=>rfl);(case hr=>first|(go_simp;done)|(go_simp;rfl));intro gb275 hg w14 hbox hb;have n0_:=Ak (below_step (by repeat (first|(with_reducible first|exact HB.out|apply below_alloc|apply pw_below_drewN|apply below_drew1)|exact HB.out)) hb);have n1_:=Ak (hbox);have n2_:=Ak ((by rw [hg];exact (below_size (by repeat (first|(with_reducible first|exact HB.out|apply below_alloc|apply pw_below_drewN|apply below_drew1)|exact HB.out))):w.heap.size≤gb275));have n3_:=Ak ((by rw [hg];exact (below_size (by repeat (first|(with_reducible first|exact HB.out|apply below_alloc|apply pw_below_drewN|apply below_drew1)|exact HB.out))):w.heap.size≤gb275));clear HB;have HB:=n0_;have BK275:=n1_;have GW275:=n2_;have GE275:=n3_;clear n0_ n1_ n2_ n3_;clear hb hbox hg;have hcz15_0:w14.cell? ⟨gb275,0,none⟩=some (.int .i64 a0_0):=(blk_cell BK275.out 0).trans rfl;have hcz15_1:w14.cell? ⟨gb275,1,none⟩=some (.int .i64 a0_1):=(blk_cell BK275.out 1).trans rfl;have hcz15_2:w14.cell? ⟨gb275,2,none⟩=some (.int .i64 a0_2):=(blk_cell BK275.out 2).trans rfl;have hcz15_3:w14.cell? ⟨gb275,3,none⟩=some (.int .i64 a0_3):=(blk_cell BK275.out 3).trans rfl;have hcz15_4:w14.cell? ⟨gb275,4,none⟩=some (.int .i64 a0_4):=(blk_cell BK275.out 4).trans rfl;have hcz15_5:w14.cell? ⟨gb275,5,none⟩=some (.string a0_5):=(blk_cell BK275.out 5).trans rfl;have hfz15_0:=blk_frozen BK275.out 0;have hfz15_1:=blk_frozen BK275.out 1;have hfz15_2:=blk_frozen BK275.out 2;have hfz15_3:=blk_frozen BK275.out 3;have hfz15_4:=blk_frozen BK275.out 4;have hfz15_5:=blk_frozen BK275.out 5)|((with_reducible refine gate_callee (f:=71) rfl ?_);refine goesL_ (some 5) rfl rfl Try.func71 (by kernel_rfl) rfl #[.int .i64 a0_0] rfl (by (try simp only [List.map_toArray,List.map_cons,List.map_nil]);first|done|rfl|(simp only [List.length_drop,List.length_take];rfl)) ?_;(with_reducible refine (spec_l4Who.calls a0_0 true _ A2.out).mono ?_);rintro e w' ⟨rfl,⟨nd,rfl⟩⟩;refine ⟨_,rfl,?_⟩))
      go_ret
      exact ⟨by first|rfl|(simp [errW_none,errW_some] <;> rfl)|(simp [*,errW_none,errW_some] <;> rfl),by repeat (first|(with_reducible first|exact HB.out|apply below_alloc|apply pw_below_drewN|apply below_drew1|refine below_set ?_ GE275.out)|exact HB.out)⟩
     ·rw [if_neg c13] at H
      have c13b0:decide (1000<a0_2)=false:=decide_eq_false c13
      clear c13
      by_cases c16:a0_3<0
      ·rw [if_pos c16] at H
       have c16b0:decide (a0_3<0)=true:=decide_eq_true c16
       clear c16
       obtain rfl:=Option.some.inj H
       go_enter Try.func73,Try.ntmps73
       go_wp2_with (first|((with_reducible refine gate_dst (N:=1) rfl ?_);(try (refine gate_guard (by rfl) ?_;dsimp only));refine box_event ?hg (N:=1) ?hd (cs:=#[.int .i64 a0_0,.int .i64 a0_1,.int .i64 a0_2,.int .i64 a0_3,.int .i64 a0_4,.string a0_5]) (t:=52) ?hr ?_;(case hd=>rfl);(case hg=>rfl);(case hr=>first|(go_simp;done)|(go_simp;rfl));intro gb275 hg w17 hbox hb;have n0_:=Ak (below_step (by repeat (first|(with_reducible first|exact HB.out|apply below_alloc|apply pw_below_drewN|apply below_drew1)|exact HB.out)) hb);have n1_:=Ak (hbox);have n2_:=Ak ((by rw [hg];exact (below_size (by repeat (first|(with_reducible first|exact HB.out|apply below_alloc|apply pw_below_drewN|apply below_drew1)|exact HB.out))):w.heap.size≤gb275));have n3_:=Ak ((by rw [hg];exact (below_size (by repeat (first|(with_reducible first|exact HB.out|apply below_alloc|apply pw_below_drewN|apply below_drew1)|exact HB.out))):w.heap.size≤gb275));clear HB;have HB:=n0_;have BK275:=n1_;have GW275:=n2_;have GE275:=n3_;clear n0_ n1_ n2_ n3_;clear hb hbox hg;have hcz18_0:w17.cell? ⟨gb275,0,none⟩=some (.int .i64 a0_0):=(blk_cell BK275.out 0).trans rfl;have hcz18_1:w17.cell? ⟨gb275,1,none⟩=some (.int .i64 a0_1):=(blk_cell BK275.out 1).trans rfl;have hcz18_2:w17.cell? ⟨gb275,2,none⟩=some (.int .i64 a0_2):=(blk_cell BK275.out 2).trans rfl;have hcz18_3:w17.cell? ⟨gb275,3,none⟩=some (.int .i64 a0_3):=(blk_cell BK275.out 3).trans rfl;have hcz18_4:w17.cell? ⟨gb275,4,none⟩=some (.int .i64 a0_4):=(blk_cell BK275.out 4).trans rfl;have hcz18_5:w17.cell? ⟨gb275,5,none⟩=some (.string a0_5):=(blk_cell BK275.out 5).trans rfl;have hfz18_0:=blk_frozen BK275.out 0;have hfz18_1:=blk_frozen BK275.out 1;have hfz18_2:=blk_frozen BK275.out 2;have hfz18_3:=blk_frozen BK275.out 3;have hfz18_4:=blk_frozen BK275.out 4;have hfz18_5:=blk_frozen BK275.out 5)|((with_reducible refine gate_callee (f:=71) rfl ?_);refine goesL_ (some 5) rfl rfl Try.func71 (by kernel_rfl) rfl #[.int .i64 a0_0] rfl (by (try simp only [List.map_toArray,List.map_cons,List.map_nil]);first|done|rfl|(simp only [List.length_drop,List.length_take];rfl)) ?_;(with_reducible refine (spec_l4Who.calls a0_0 true _ A2.out).mono ?_);rintro e w' ⟨rfl,⟨nd,rfl⟩⟩;refine ⟨_,rfl,?_⟩))
       go_ret
       exact ⟨by first|rfl|(simp [errW_none,errW_some] <;> rfl)|(simp [*,errW_none,errW_some] <;> rfl),by repeat (first|(with_reducible first|exact HB.out|apply below_alloc|apply pw_below_drewN|apply below_drew1|refine below_set ?_ GE275.out)|exact HB.out)⟩
      ·rw [if_neg c16] at H
       have c16b0:decide (a0_3<0)=false:=decide_eq_false c16
       clear c16
       by_cases c19:a0_3 ≥ 3
       ·rw [if_pos c19] at H
        have c19b0:decide (3≤a0_3)=true:=decide_eq_true c19
        clear c19
        obtain rfl:=Option.some.inj H
        go_enter Try.func73,Try.ntmps73
        go_wp2_with (first|((with_reducible refine gate_dst (N:=1) rfl ?_);(try (refine gate_guard (by rfl) ?_;dsimp only));refine box_event ?hg (N:=1) ?hd (cs:=#[.int .i64 a0_0,.int .i64 a0_1,.int .i64 a0_2,.int .i64 a0_3,.int .i64 a0_4,.string a0_5]) (t:=52) ?hr ?_;(case hd=>rfl);(case hg=>rfl);(case hr=>first|(go_simp;done)|(go_simp;rfl));intro gb275 hg w20 hbox hb;have n0_:=Ak (below_step (by repeat (first|(with_reducible first|exact HB.out|apply below_alloc|apply pw_below_drewN|apply below_drew1)|exact HB.out)) hb);have n1_:=Ak (hbox);have n2_:=Ak ((by rw [hg];exact (below_size (by repeat (first|(with_reducible first|exact HB.out|apply below_alloc|apply pw_below_drewN|apply below_drew1)|exact HB.out))):w.heap.size≤gb275));have n3_:=Ak ((by rw [hg];exact (below_size (by repeat (first|(with_reducible first|exact HB.out|apply below_alloc|apply pw_below_drewN|apply below_drew1)|exact HB.out))):w.heap.size≤gb275));clear HB;have HB:=n0_;have BK275:=n1_;have GW275:=n2_;have GE275:=n3_;clear n0_ n1_ n2_ n3_;clear hb hbox hg;have hcz21_0:w20.cell? ⟨gb275,0,none⟩=some (.int .i64 a0_0):=(blk_cell BK275.out 0).trans rfl;have hcz21_1:w20.cell? ⟨gb275,1,none⟩=some (.int .i64 a0_1):=(blk_cell BK275.out 1).trans rfl;have hcz21_2:w20.cell? ⟨gb275,2,none⟩=some (.int .i64 a0_2):=(blk_cell BK275.out 2).trans rfl;have hcz21_3:w20.cell? ⟨gb275,3,none⟩=some (.int .i64 a0_3):=(blk_cell BK275.out 3).trans rfl;have hcz21_4:w20.cell? ⟨gb275,4,none⟩=some (.int .i64 a0_4):=(blk_cell BK275.out 4).trans rfl;have hcz21_5:w20.cell? ⟨gb275,5,none⟩=some (.string a0_5):=(blk_cell BK275.out 5).trans rfl;have hfz21_0:=blk_frozen BK275.out 0;have hfz21_1:=blk_frozen BK275.out 1;have hfz21_2:=blk_frozen BK275.out 2;have hfz21_3:=blk_frozen BK275.out 3;have hfz21_4:=blk_frozen BK275.out 4;have hfz21_5:=blk_frozen BK275.out 5)|((with_reducible refine gate_callee (f:=71) rfl ?_);refine goesL_ (some 5) rfl rfl Try.func71 (by kernel_rfl) rfl #[.int .i64 a0_0] rfl (by (try simp only [List.map_toArray,List.map_cons,List.map_nil]);first|done|rfl|(simp only [List.length_drop,List.length_take];rfl)) ?_;(with_reducible refine (spec_l4Who.calls a0_0 true _ A2.out).mono ?_);rintro e w' ⟨rfl,⟨nd,rfl⟩⟩;refine ⟨_,rfl,?_⟩))
        go_ret
        exact ⟨by first|rfl|(simp [errW_none,errW_some] <;> rfl)|(simp [*,errW_none,errW_some] <;> rfl),by repeat (first|(with_reducible first|exact HB.out|apply below_alloc|apply pw_below_drewN|apply below_drew1|refine below_set ?_ GE275.out)|exact HB.out)⟩
       ·rw [if_neg c19] at H
        have c19b0:decide (3≤a0_3)=false:=decide_eq_false c19
        clear c19
        by_cases c22:a0_4 ≥ 0
        ·rw [if_pos c22] at H
         have c22b0:decide (0≤a0_4)=true:=decide_eq_true c22
         clear c22
         by_cases c23:a0_4≤48
         ·rw [if_pos c23] at H
          have c23b0:decide (a0_4≤48)=true:=decide_eq_true c23
          clear c23
          replace H:=Option.bind_eq_some_iff.mp H
          obtain ⟨t277,A240,H⟩:=H
          replace H:(if t277=true then (if a0_5.toList=([]:List UInt8) then (some false) else (some (decide ((wrap64 (a0_4 + (a0_5.size:Int)))≤48)))) else (some false))=some r:=H
          have A24:=Ak A240
          clear A240
          by_cases c25:t277=true
          ·subst c25
           have H1:(if a0_5.toList=([]:List UInt8) then (some false) else (some (decide ((wrap64 (a0_4 + (a0_5.size:Int)))≤48))))=some r:=by rw [if_pos rfl] at H;exact H
           clear H
           have H:=H1
           clear H1
           by_cases c26:a0_5.toList=([]:List UInt8)
           ·rw [if_pos c26] at H
            have c26b0:(a0_5.toList == ([]:List UInt8))=true:=beq_iff_eq.mpr c26
            have c26b1:(a0_5.toList != ([]:List UInt8))=false:=bne_eq_false_iff_eq.mpr c26
            clear c26
            obtain rfl:=Option.some.inj H
            go_enter Try.func73,Try.ntmps73
            go_wp2_with (first|((with_reducible refine gate_dst (N:=1) rfl ?_);(try (refine gate_guard (by rfl) ?_;dsimp only));refine box_event ?hg (N:=1) ?hd (cs:=#[.int .i64 a0_0,.int .i64 a0_1,.int .i64 a0_2,.int .i64 a0_3,.int .i64 a0_4,.string a0_5]) (t:=52) ?hr ?_;(case hd=>rfl);(case hg=>rfl);(case hr=>first|(go_simp;done)|(go_simp;rfl));intro gb275 hg w27 hbox hb;have n0_:=Ak (below_step (by repeat (first|(with_reducible first|exact HB.out|apply below_alloc|apply pw_below_drewN|apply below_drew1)|exact HB.out)) hb);have n1_:=Ak (hbox);have n2_:=Ak ((by rw [hg];exact (below_size (by repeat (first|(with_reducible first|exact HB.out|apply below_alloc|apply pw_below_drewN|apply below_drew1)|exact HB.out))):w.heap.size≤gb275));have n3_:=Ak ((by rw [hg];exact (below_size (by repeat (first|(with_reducible first|exact HB.out|apply below_alloc|apply pw_below_drewN|apply below_drew1)|exact HB.out))):w.heap.size≤gb275));clear HB;have HB:=n0_;have BK275:=n1_;have GW275:=n2_;have GE275:=n3_;clear n0_ n1_ n2_ n3_;clear hb hbox hg;have hcz28_0:w27.cell? ⟨gb275,0,none⟩=some (.int .i64 a0_0):=(blk_cell BK275.out 0).trans rfl;have hcz28_1:w27.cell? ⟨gb275,1,none⟩=some (.int .i64 a0_1):=(blk_cell BK275.out 1).trans rfl;have hcz28_2:w27.cell? ⟨gb275,2,none⟩=some (.int .i64 a0_2):=(blk_cell BK275.out 2).trans rfl;have hcz28_3:w27.cell? ⟨gb275,3,none⟩=some (.int .i64 a0_3):=(blk_cell BK275.out 3).trans rfl;have hcz28_4:w27.cell? ⟨gb275,4,none⟩=some (.int .i64 a0_4):=(blk_cell BK275.out 4).trans rfl;have hcz28_5:w27.cell? ⟨gb275,5,none⟩=some (.string a0_5):=(blk_cell BK275.out 5).trans rfl;have hfz28_0:=blk_frozen BK275.out 0;have hfz28_1:=blk_frozen BK275.out 1;have hfz28_2:=blk_frozen BK275.out 2;have hfz28_3:=blk_frozen BK275.out 3;have hfz28_4:=blk_frozen BK275.out 4;have hfz28_5:=blk_frozen BK275.out 5)|((with_reducible refine gate_callee (f:=71) rfl ?_);refine goesL_ (some 5) rfl rfl Try.func71 (by kernel_rfl) rfl #[.int .i64 a0_0] rfl (by (try simp only [List.map_toArray,List.map_cons,List.map_nil]);first|done|rfl|(simp only [List.length_drop,List.length_take];rfl)) ?_;(with_reducible refine (spec_l4Who.calls a0_0 true _ A2.out).mono ?_);rintro e w' ⟨rfl,⟨nd,rfl⟩⟩;refine ⟨_,rfl,?_⟩)|(go_at_call 75;(with_reducible refine (spec_TextOk.calls k a0_5 true _ A24.out).mono ?_);rintro e w' ⟨rfl,⟨nd,rfl⟩⟩))
            go_ret
            exact ⟨by first|rfl|(simp [errW_none,errW_some] <;> rfl)|(simp [*,errW_none,errW_some] <;> rfl),by repeat (first|(with_reducible first|exact HB.out|apply below_alloc|apply pw_below_drewN|apply below_drew1|refine below_set ?_ GE275.out)|exact HB.out)⟩
           ·rw [if_neg c26] at H
            have c26b0:(a0_5.toList == ([]:List UInt8))=false:=beq_eq_false_iff_ne.mpr c26
            have c26b1:(a0_5.toList != ([]:List UInt8))=true:=bne_iff_ne.mpr c26
            obtain rfl:=Option.some.inj H
            go_enter Try.func73,Try.ntmps73
            go_wp2_with (first|((with_reducible refine gate_dst (N:=1) rfl ?_);(try (refine gate_guard (by rfl) ?_;dsimp only));refine box_event ?hg (N:=1) ?hd (cs:=#[.int .i64 a0_0,.int .i64 a0_1,.int .i64 a0_2,.int .i64 a0_3,.int .i64 a0_4,.string a0_5]) (t:=52) ?hr ?_;(case hd=>rfl);(case hg=>rfl);(case hr=>first|(go_simp;done)|(go_simp;rfl));intro gb275 hg w29 hbox hb;have n0_:=Ak (below_step (by repeat (first|(with_reducible first|exact HB.out|apply below_alloc|apply pw_below_drewN|apply below_drew1)|exact HB.out)) hb);have n1_:=Ak (hbox);have n2_:=Ak ((by rw [hg];exact (below_size (by repeat (first|(with_reducible first|exact HB.out|apply below_alloc|apply pw_below_drewN|apply below_drew1)|exact HB.out))):w.heap.size≤gb275));have n3_:=Ak ((by rw [hg];exact (below_size (by repeat (first|(with_reducible first|exact HB.out|apply below_alloc|apply pw_below_drewN|apply below_drew1)|exact HB.out))):w.heap.size≤gb275));clear HB;have HB:=n0_;have BK275:=n1_;have GW275:=n2_;have GE275:=n3_;clear n0_ n1_ n2_ n3_;clear hb hbox hg;have hcz30_0:w29.cell? ⟨gb275,0,none⟩=some (.int .i64 a0_0):=(blk_cell BK275.out 0).trans rfl;have hcz30_1:w29.cell? ⟨gb275,1,none⟩=some (.int .i64 a0_1):=(blk_cell BK275.out 1).trans rfl;have hcz30_2:w29.cell? ⟨gb275,2,none⟩=some (.int .i64 a0_2):=(blk_cell BK275.out 2).trans rfl;have hcz30_3:w29.cell? ⟨gb275,3,none⟩=some (.int .i64 a0_3):=(blk_cell BK275.out 3).trans rfl;have hcz30_4:w29.cell? ⟨gb275,4,none⟩=some (.int .i64 a0_4):=(blk_cell BK275.out 4).trans rfl;have hcz30_5:w29.cell? ⟨gb275,5,none⟩=some (.string a0_5):=(blk_cell BK275.out 5).trans rfl;have hfz30_0:=blk_frozen BK275.out 0;have hfz30_1:=blk_frozen BK275.out 1;have hfz30_2:=blk_frozen BK275.out 2;have hfz30_3:=blk_frozen BK275.out 3;have hfz30_4:=blk_frozen BK275.out 4;have hfz30_5:=blk_frozen BK275.out 5)|((with_reducible refine gate_callee (f:=71) rfl ?_);refine goesL_ (some 5) rfl rfl Try.func71 (by kernel_rfl) rfl #[.int .i64 a0_0] rfl (by (try simp only [List.map_toArray,List.map_cons,List.map_nil]);first|done|rfl|(simp only [List.length_drop,List.length_take];rfl)) ?_;(with_reducible refine (spec_l4Who.calls a0_0 true _ A2.out).mono ?_);rintro e w' ⟨rfl,⟨nd,rfl⟩⟩;refine ⟨_,rfl,?_⟩)|(go_at_call 75;(with_reducible refine (spec_TextOk.calls k a0_5 true _ A24.out).mono ?_);rintro e w' ⟨rfl,⟨nd,rfl⟩⟩))
            go_ret
            exact ⟨by first|rfl|(simp [errW_none,errW_some] <;> rfl)|(simp [*,errW_none,errW_some] <;> rfl),by repeat (first|(with_reducible first|exact HB.out|apply below_alloc|apply pw_below_drewN|apply below_drew1|refine below_set ?_ GE275.out)|exact HB.out)⟩
          ·replace c25:=Bool.eq_false_iff.mpr c25
           subst c25
           have H1:(some false)=some r:=by rw [if_neg (show ¬ (false=true) by decide)] at H;exact H
           clear H
           have H:=H1
           clear H1
           obtain rfl:=Option.some.inj H
           go_enter Try.func73,Try.ntmps73
           go_wp2_with (first|((with_reducible refine gate_dst (N:=1) rfl ?_);(try (refine gate_guard (by rfl) ?_;dsimp only));refine box_event ?hg (N:=1) ?hd (cs:=#[.int .i64 a0_0,.int .i64 a0_1,.int .i64 a0_2,.int .i64 a0_3,.int .i64 a0_4,.string a0_5]) (t:=52) ?hr ?_;(case hd=>rfl);(case hg=>rfl);(case hr=>first|(go_simp;done)|(go_simp;rfl));intro gb275 hg w31 hbox hb;have n0_:=Ak (below_step (by repeat (first|(with_reducible first|exact HB.out|apply below_alloc|apply pw_below_drewN|apply below_drew1)|exact HB.out)) hb);have n1_:=Ak (hbox);have n2_:=Ak ((by rw [hg];exact (below_size (by repeat (first|(with_reducible first|exact HB.out|apply below_alloc|apply pw_below_drewN|apply below_drew1)|exact HB.out))):w.heap.size≤gb275));have n3_:=Ak ((by rw [hg];exact (below_size (by repeat (first|(with_reducible first|exact HB.out|apply below_alloc|apply pw_below_drewN|apply below_drew1)|exact HB.out))):w.heap.size≤gb275));clear HB;have HB:=n0_;have BK275:=n1_;have GW275:=n2_;have GE275:=n3_;clear n0_ n1_ n2_ n3_;clear hb hbox hg;have hcz32_0:w31.cell? ⟨gb275,0,none⟩=some (.int .i64 a0_0):=(blk_cell BK275.out 0).trans rfl;have hcz32_1:w31.cell? ⟨gb275,1,none⟩=some (.int .i64 a0_1):=(blk_cell BK275.out 1).trans rfl;have hcz32_2:w31.cell? ⟨gb275,2,none⟩=some (.int .i64 a0_2):=(blk_cell BK275.out 2).trans rfl;have hcz32_3:w31.cell? ⟨gb275,3,none⟩=some (.int .i64 a0_3):=(blk_cell BK275.out 3).trans rfl;have hcz32_4:w31.cell? ⟨gb275,4,none⟩=some (.int .i64 a0_4):=(blk_cell BK275.out 4).trans rfl;have hcz32_5:w31.cell? ⟨gb275,5,none⟩=some (.string a0_5):=(blk_cell BK275.out 5).trans rfl;have hfz32_0:=blk_frozen BK275.out 0;have hfz32_1:=blk_frozen BK275.out 1;have hfz32_2:=blk_frozen BK275.out 2;have hfz32_3:=blk_frozen BK275.out 3;have hfz32_4:=blk_frozen BK275.out 4;have hfz32_5:=blk_frozen BK275.out 5)|((with_reducible refine gate_callee (f:=71) rfl ?_);refine goesL_ (some 5) rfl rfl Try.func71 (by kernel_rfl) rfl #[.int .i64 a0_0] rfl (by (try simp only [List.map_toArray,List.map_cons,List.map_nil]);first|done|rfl|(simp only [List.length_drop,List.length_take];rfl)) ?_;(with_reducible refine (spec_l4Who.calls a0_0 true _ A2.out).mono ?_);rintro e w' ⟨rfl,⟨nd,rfl⟩⟩;refine ⟨_,rfl,?_⟩)|(go_at_call 75;(with_reducible refine (spec_TextOk.calls k a0_5 false _ A24.out).mono ?_);rintro e w' ⟨rfl,⟨nd,rfl⟩⟩))
           go_ret
           exact ⟨by first|rfl|(simp [errW_none,errW_some] <;> rfl)|(simp [*,errW_none,errW_some] <;> rfl),by repeat (first|(with_reducible first|exact HB.out|apply below_alloc|apply pw_below_drewN|apply below_drew1|refine below_set ?_ GE275.out)|exact HB.out)⟩
         ·rw [if_neg c23] at H
          have c23b0:decide (a0_4≤48)=false:=decide_eq_false c23
          clear c23
          obtain rfl:=Option.some.inj H
          go_enter Try.func73,Try.ntmps73
          go_wp2_with (first|((with_reducible refine gate_dst (N:=1) rfl ?_);(try (refine gate_guard (by rfl) ?_;dsimp only));refine box_event ?hg (N:=1) ?hd (cs:=#[.int .i64 a0_0,.int .i64 a0_1,.int .i64 a0_2,.int .i64 a0_3,.int .i64 a0_4,.string a0_5]) (t:=52) ?hr ?_;(case hd=>rfl);(case hg=>rfl);(case hr=>first|(go_simp;done)|(go_simp;rfl));intro gb275 hg w33 hbox hb;have n0_:=Ak (below_step (by repeat (first|(with_reducible first|exact HB.out|apply below_alloc|apply pw_below_drewN|apply below_drew1)|exact HB.out)) hb);have n1_:=Ak (hbox);have n2_:=Ak ((by rw [hg];exact (below_size (by repeat (first|(with_reducible first|exact HB.out|apply below_alloc|apply pw_below_drewN|apply below_drew1)|exact HB.out))):w.heap.size≤gb275));have n3_:=Ak ((by rw [hg];exact (below_size (by repeat (first|(with_reducible first|exact HB.out|apply below_alloc|apply pw_below_drewN|apply below_drew1)|exact HB.out))):w.heap.size≤gb275));clear HB;have HB:=n0_;have BK275:=n1_;have GW275:=n2_;have GE275:=n3_;clear n0_ n1_ n2_ n3_;clear hb hbox hg;have hcz34_0:w33.cell? ⟨gb275,0,none⟩=some (.int .i64 a0_0):=(blk_cell BK275.out 0).trans rfl;have hcz34_1:w33.cell? ⟨gb275,1,none⟩=some (.int .i64 a0_1):=(blk_cell BK275.out 1).trans rfl;have hcz34_2:w33.cell? ⟨gb275,2,none⟩=some (.int .i64 a0_2):=(blk_cell BK275.out 2).trans rfl;have hcz34_3:w33.cell? ⟨gb275,3,none⟩=some (.int .i64 a0_3):=(blk_cell BK275.out 3).trans rfl;have hcz34_4:w33.cell? ⟨gb275,4,none⟩=some (.int .i64 a0_4):=(blk_cell BK275.out 4).trans rfl;have hcz34_5:w33.cell? ⟨gb275,5,none⟩=some (.string a0_5):=(blk_cell BK275.out 5).trans rfl;have hfz34_0:=blk_frozen BK275.out 0;have hfz34_1:=blk_frozen BK275.out 1;have hfz34_2:=blk_frozen BK275.out 2;have hfz34_3:=blk_frozen BK275.out 3;have hfz34_4:=blk_frozen BK275.out 4;have hfz34_5:=blk_frozen BK275.out 5)|((with_reducible refine gate_callee (f:=71) rfl ?_);refine goesL_ (some 5) rfl rfl Try.func71 (by kernel_rfl) rfl #[.int .i64 a0_0] rfl (by (try simp only [List.map_toArray,List.map_cons,List.map_nil]);first|done|rfl|(simp only [List.length_drop,List.length_take];rfl)) ?_;(with_reducible refine (spec_l4Who.calls a0_0 true _ A2.out).mono ?_);rintro e w' ⟨rfl,⟨nd,rfl⟩⟩;refine ⟨_,rfl,?_⟩))
          go_ret
          exact ⟨by first|rfl|(simp [errW_none,errW_some] <;> rfl)|(simp [*,errW_none,errW_some] <;> rfl),by repeat (first|(with_reducible first|exact HB.out|apply below_alloc|apply pw_below_drewN|apply below_drew1|refine below_set ?_ GE275.out)|exact HB.out)⟩
        ·rw [if_neg c22] at H
         have c22b0:decide (0≤a0_4)=false:=decide_eq_false c22
         clear c22
         obtain rfl:=Option.some.inj H
         go_enter Try.func73,Try.ntmps73
         go_wp2_with (first|((with_reducible refine gate_dst (N:=1) rfl ?_);(try (refine gate_guard (by rfl) ?_;dsimp only));refine box_event ?hg (N:=1) ?hd (cs:=#[.int .i64 a0_0,.int .i64 a0_1,.int .i64 a0_2,.int .i64 a0_3,.int .i64 a0_4,.string a0_5]) (t:=52) ?hr ?_;(case hd=>rfl);(case hg=>rfl);(case hr=>first|(go_simp;done)|(go_simp;rfl));intro gb275 hg w35 hbox hb;have n0_:=Ak (below_step (by repeat (first|(with_reducible first|exact HB.out|apply below_alloc|apply pw_below_drewN|apply below_drew1)|exact HB.out)) hb);have n1_:=Ak (hbox);have n2_:=Ak ((by rw [hg];exact (below_size (by repeat (first|(with_reducible first|exact HB.out|apply below_alloc|apply pw_below_drewN|apply below_drew1)|exact HB.out))):w.heap.size≤gb275));have n3_:=Ak ((by rw [hg];exact (below_size (by repeat (first|(with_reducible first|exact HB.out|apply below_alloc|apply pw_below_drewN|apply below_drew1)|exact HB.out))):w.heap.size≤gb275));clear HB;have HB:=n0_;have BK275:=n1_;have GW275:=n2_;have GE275:=n3_;clear n0_ n1_ n2_ n3_;clear hb hbox hg;have hcz36_0:w35.cell? ⟨gb275,0,none⟩=some (.int .i64 a0_0):=(blk_cell BK275.out 0).trans rfl;have hcz36_1:w35.cell? ⟨gb275,1,none⟩=some (.int .i64 a0_1):=(blk_cell BK275.out 1).trans rfl;have hcz36_2:w35.cell? ⟨gb275,2,none⟩=some (.int .i64 a0_2):=(blk_cell BK275.out 2).trans rfl;have hcz36_3:w35.cell? ⟨gb275,3,none⟩=some (.int .i64 a0_3):=(blk_cell BK275.out 3).trans rfl;have hcz36_4:w35.cell? ⟨gb275,4,none⟩=some (.int .i64 a0_4):=(blk_cell BK275.out 4).trans rfl;have hcz36_5:w35.cell? ⟨gb275,5,none⟩=some (.string a0_5):=(blk_cell BK275.out 5).trans rfl;have hfz36_0:=blk_frozen BK275.out 0;have hfz36_1:=blk_frozen BK275.out 1;have hfz36_2:=blk_frozen BK275.out 2;have hfz36_3:=blk_frozen BK275.out 3;have hfz36_4:=blk_frozen BK275.out 4;have hfz36_5:=blk_frozen BK275.out 5)|((with_reducible refine gate_callee (f:=71) rfl ?_);refine goesL_ (some 5) rfl rfl Try.func71 (by kernel_rfl) rfl #[.int .i64 a0_0] rfl (by (try simp only [List.map_toArray,List.map_cons,List.map_nil]);first|done|rfl|(simp only [List.length_drop,List.length_take];rfl)) ?_;(with_reducible refine (spec_l4Who.calls a0_0 true _ A2.out).mono ?_);rintro e w' ⟨rfl,⟨nd,rfl⟩⟩;refine ⟨_,rfl,?_⟩))
         go_ret
         exact ⟨by first|rfl|(simp [errW_none,errW_some] <;> rfl)|(simp [*,errW_none,errW_some] <;> rfl),by repeat (first|(with_reducible first|exact HB.out|apply below_alloc|apply pw_below_drewN|apply below_drew1|refine below_set ?_ GE275.out)|exact HB.out)⟩
 ·replace c3:=Bool.eq_false_iff.mpr c3
  subst c3
  have H1:(some false)=some r:=by rw [if_neg (show ¬ (false=true) by decide)] at H;exact H
  clear H
  have H:=H1
  clear H1
  obtain rfl:=Option.some.inj H
  go_enter Try.func73,Try.ntmps73
  go_wp2_with (first|((with_reducible refine gate_dst (N:=1) rfl ?_);(try (refine gate_guard (by rfl) ?_;dsimp only));refine box_event ?hg (N:=1) ?hd (cs:=#[.int .i64 a0_0,.int .i64 a0_1,.int .i64 a0_2,.int .i64 a0_3,.int .i64 a0_4,.string a0_5]) (t:=52) ?hr ?_;(case hd=>rfl);(case hg=>rfl);(case hr=>first|(go_simp;done)|(go_simp;rfl));intro gb275 hg w37 hbox hb;have n0_:=Ak (below_step (by repeat (first|(with_reducible first|exact HB.out|apply below_alloc|apply pw_below_drewN|apply below_drew1)|exact HB.out)) hb);have n1_:=Ak (hbox);have n2_:=Ak ((by rw [hg];exact (below_size (by repeat (first|(with_reducible first|exact HB.out|apply below_alloc|apply pw_below_drewN|apply below_drew1)|exact HB.out))):w.heap.size≤gb275));have n3_:=Ak ((by rw [hg];exact (below_size (by repeat (first|(with_reducible first|exact HB.out|apply below_alloc|apply pw_below_drewN|apply below_drew1)|exact HB.out))):w.heap.size≤gb275));clear HB;have HB:=n0_;have BK275:=n1_;have GW275:=n2_;have GE275:=n3_;clear n0_ n1_ n2_ n3_;clear hb hbox hg;have hcz38_0:w37.cell? ⟨gb275,0,none⟩=some (.int .i64 a0_0):=(blk_cell BK275.out 0).trans rfl;have hcz38_1:w37.cell? ⟨gb275,1,none⟩=some (.int .i64 a0_1):=(blk_cell BK275.out 1).trans rfl;have hcz38_2:w37.cell? ⟨gb275,2,none⟩=some (.int .i64 a0_2):=(blk_cell BK275.out 2).trans rfl;have hcz38_3:w37.cell? ⟨gb275,3,none⟩=some (.int .i64 a0_3):=(blk_cell BK275.out 3).trans rfl;have hcz38_4:w37.cell? ⟨gb275,4,none⟩=some (.int .i64 a0_4):=(blk_cell BK275.out 4).trans rfl;have hcz38_5:w37.cell? ⟨gb275,5,none⟩=some (.string a0_5):=(blk_cell BK275.out 5).trans rfl;have hfz38_0:=blk_frozen BK275.out 0;have hfz38_1:=blk_frozen BK275.out 1;have hfz38_2:=blk_frozen BK275.out 2;have hfz38_3:=blk_frozen BK275.out 3;have hfz38_4:=blk_frozen BK275.out 4;have hfz38_5:=blk_frozen BK275.out 5)|((with_reducible refine gate_callee (f:=71) rfl ?_);refine goesL_ (some 5) rfl rfl Try.func71 (by kernel_rfl) rfl #[.int .i64 a0_0] rfl (by (try simp only [List.map_toArray,List.map_cons,List.map_nil]);first|done|rfl|(simp only [List.length_drop,List.length_take];rfl)) ?_;(with_reducible refine (spec_l4Who.calls a0_0 false _ A2.out).mono ?_);rintro e w' ⟨rfl,⟨nd,rfl⟩⟩;refine ⟨_,rfl,?_⟩))
  go_ret
  exact ⟨by first|rfl|(simp [errW_none,errW_some] <;> rfl)|(simp [*,errW_none,errW_some] <;> rfl),by repeat (first|(with_reducible first|exact HB.out|apply below_alloc|apply pw_below_drewN|apply below_drew1|refine below_set ?_ GE275.out)|exact HB.out)⟩
end Go.Proofs.Ytmekkapacbdbeaa.P

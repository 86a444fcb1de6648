/- Part 3 of the proof of FnStoreReplay: words, contracts of callees, plain lemmas. -/
import Derived.Test.YtmekkapacbdbeaaZLStoreReplay2
set_option maxHeartbeats 8000000
set_option maxRecDepth 100000
set_option linter.unusedVariables false
set_option linter.unusedSimpArgs false
namespace Go.Proofs.Ytmekkapacbdbeaa.P
open Go.RowKit Go.Proofs.YtmekkapacbdbeaaW.PrintWords Go.Proofs.YtmekkapacbdbeaaW.PrintLast Go.Proofs.YtmekkapacbdbeaaW.PrintMore
theorem spec_l5Copy.calls (A0_0:Option Addr) (c0_0:Nat) (l0_0:List ByteArray) (A0_1:Option Addr) (c0_1:Nat) (l0_1:List ByteArray) (A0_2:Option Addr) (c0_2:Nat) (l0_2:List Int) (A0_3:Option Addr) (c0_3:Nat) (l0_3:List Int) (A0_4:Option Addr) (c0_4:Nat) (l0_4:List Int) (r1:List ByteArray) (r2:List ByteArray) (r3:List Int) (r4:List Int) (r5:List Int) (w:World) (hr0_0:Kd.C Kd.string w A0_0 l0_0.length l0_0) (hc0_0:l0_0.length≤c0_0) (hr0_1:Kd.C Kd.string w A0_1 l0_1.length l0_1) (hc0_1:l0_1.length≤c0_1) (hr0_2:Kd.C (Kd.int .i64) w A0_2 l0_2.length l0_2) (hc0_2:l0_2.length≤c0_2) (hr0_3:Kd.C (Kd.int .i64) w A0_3 l0_3.length l0_3) (hc0_3:l0_3.length≤c0_3) (hr0_4:Kd.C (Kd.int .i64) w A0_4 l0_4.length l0_4) (hc0_4:l0_4.length≤c0_4) (h:spec_l5Copy.f l0_0 l0_1 l0_2 l0_3 l0_4=some (r1,r2,r3,r4,r5)) :
  Calls Try.prog 50 #[.agg #[.slice A0_0 l0_0.length c0_0,.slice A0_1 l0_1.length c0_1,.slice A0_2 l0_2.length c0_2,.slice A0_3 l0_3.length c0_3,.slice A0_4 l0_4.length c0_4]] w fun e w'=>∃ v0_ v1_ v2_ v3_ v4_:Value,e = .returned (.agg #[v0_,v1_,v2_,v3_,v4_])∧Kd.R Kd.string 9 w' w.heap.size (fun k_=>some k_ ≠ (v1_:Value).ownBlock) v0_ r1∧Kd.R Kd.string 9 w' w.heap.size (fun k_=>some k_ ≠ (v0_:Value).ownBlock) v1_ r2∧Kd.R (Kd.int .i64) 3 w' w.heap.size (fun k_=>some k_ ≠ (v3_:Value).ownBlock∧some k_ ≠ (v4_:Value).ownBlock) v2_ r3∧Kd.R (Kd.int .i64) 3 w' w.heap.size (fun k_=>some k_ ≠ (v2_:Value).ownBlock∧some k_ ≠ (v4_:Value).ownBlock) v3_ r4∧Kd.R (Kd.int .i64) 3 w' w.heap.size (fun k_=>some k_ ≠ (v2_:Value).ownBlock∧some k_ ≠ (v3_:Value).ownBlock) v4_ r5∧Below w.heap.size w w':=by
 unfold spec_l5Copy.f at h
 simp only [Option.bind_some,List.length_nil,Nat.zero_add,List.nil_append] at h
 by_cases hl0:l0_0.length<8796093022208
 case neg=>rw [if_neg hl0] at h;cases h
 rw [if_pos hl0] at h
 have HL0:=Ak hl0
 clear hl0
 by_cases hl1:l0_1.length<8796093022208
 case neg=>rw [if_neg hl1] at h;cases h
 rw [if_pos hl1] at h
 have HL1:=Ak hl1
 clear hl1
 by_cases hl2:l0_2.length<17592186044416
 case neg=>rw [if_neg hl2] at h;cases h
 rw [if_pos hl2] at h
 have HL2:=Ak hl2
 clear hl2
 by_cases hl3:l0_3.length<17592186044416
 case neg=>rw [if_neg hl3] at h;cases h
 rw [if_pos hl3] at h
 have HL3:=Ak hl3
 clear hl3
 by_cases hl4:l0_4.length<17592186044416
 case neg=>rw [if_neg hl4] at h;cases h
 rw [if_pos hl4] at h
 have HL4:=Ak hl4
 clear hl4
 simp only [Option.some.injEq,Prod.mk.injEq] at h
 obtain ⟨rfl,rfl,rfl,rfl,rfl⟩:=h
 have HR0:=Ak hr0_0
 clear hr0_0 hc0_0
 have HR1:=Ak hr0_1
 clear hr0_1 hc0_1
 have HR2:=Ak hr0_2
 clear hr0_2 hc0_2
 have HR3:=Ak hr0_3
 clear hr0_3 hc0_3
 have HR4:=Ak hr0_4
 clear hr0_4 hc0_4
 have hu:=Try.underlying26
 go_enter Try.func50,Try.ntmps50
 go_wp2_with (first|((with_reducible refine gate_dst (N:=1) rfl ?_);refine ev_box ?hg (N:=1) ?hd (cs:=#[.slice A0_0 l0_0.length c0_0,.slice A0_1 l0_1.length c0_1,.slice A0_2 l0_2.length c0_2,.slice A0_3 l0_3.length c0_3,.slice A0_4 l0_4.length c0_4]) (t:=26) ?hr ?_;(case hd=>rfl);(case hg=>rfl);(case hr=>first|(go_simp;done)|(go_simp;rfl));intro g1 W0 HG1 BK1 HB1)|((with_reducible refine gate_dst (N:=2) rfl ?_);refine ev_box ?hg (N:=2) ?hd (cs:=#[.slice none 0 0,.slice none 0 0,.slice none 0 0,.slice none 0 0,.slice none 0 0]) (t:=26) ?hr ?_;(case hd=>rfl);(case hg=>rfl);(case hr=>first|(go_simp;done)|(go_simp;rfl));intro g2 W1 HG2 BK2 HB2))
 have HW0:=Ak HB1.out.size
 have HG12:Aside0 (g1<g2):=⟨by have h1:=BK1.out.lt;have h2:=HG2.out;omega⟩
 have HBw:=Ak (below_step HB1.out HB2.out)
 have BKa:=Ak (Bk.below BK1.out HB2.out)
 clear BK1 HB1
 refine start_ (n:=22) (S:=fun w'=>True) (ds:=[]) #[false,false,false,false,false,false,false,false,false,false,false,false,false,false,false,false,false,false,false,false,false,false] (by kernel_rfl) rfl rfl trivial (fun hHeld=>?_)
 clear hHeld
 refine with_tabW spec_l5Copy.tab1 spec_l5Copy.bits1 (fun HT_ HW_=>?_)
 have BK2':Aside0 (Bk W1.drew g2 #[.slice none 0 0,.slice none 0 0,.slice none 0 0,.slice none 0 0,.slice none 0 0] 26):=⟨BK2.out⟩
 have HBd:=Ak (below_drew1 HBw.out)
 have BKa':Aside0 (Bk W1.drew g1 #[.slice A0_0 l0_0.length c0_0,.slice A0_1 l0_1.length c0_1,.slice A0_2 l0_2.length c0_2,.slice A0_3 l0_3.length c0_3,.slice A0_4 l0_4.length c0_4] 26):=⟨BKa.out⟩
 have HGE:Aside0 (w.heap.size≤g2):=⟨by have h1:=HG2.out;have h2:=HW0.out;omega⟩
 generalize W1.drew=w4 at BK2' HBd BKa' ⊢
 clear HBw BK2 HB2 BKa
 refine inv_at [0,1,2,3,4,5,6,7,8,9,10,11,12,13,14,15,16,17,18,19,20,21] (fun a0_ b a w'=>∃ (u0:Value) (u1:Value) (u2:Value) (u3:Value) (u4:Value) (v0:Value) (v1:Value) (v2:Value) (v3:Value) (v4:Value) (m:Value) (D:Nat→Nat→Prop),a=putSel a0_ b [(0,3,u0),(1,4,.pointer (some ⟨g1,0,none⟩)),(2,5,.slice A0_0 l0_0.length c0_0),(3,6,v0),(4,7,u1),(5,8,.pointer (some ⟨g1,1,none⟩)),(6,9,.slice A0_1 l0_1.length c0_1),(7,10,v1),(8,11,u2),(9,12,.pointer (some ⟨g1,2,none⟩)),(10,13,.slice A0_2 l0_2.length c0_2),(11,14,v2),(12,15,u3),(13,16,.pointer (some ⟨g1,3,none⟩)),(14,17,.slice A0_3 l0_3.length c0_3),(15,18,v3),(16,19,u4),(17,20,.pointer (some ⟨g1,4,none⟩)),(18,21,.slice A0_4 l0_4.length c0_4),(19,22,v4),(20,23,m)]∧Below w.heap.size w w'∧Bk w' g1 #[.slice A0_0 l0_0.length c0_0,.slice A0_1 l0_1.length c0_1,.slice A0_2 l0_2.length c0_2,.slice A0_3 l0_3.length c0_3,.slice A0_4 l0_4.length c0_4] 26∧(b 21=false→Bk w' g2 #[.slice none 0 0,.slice none 0 0,.slice none 0 0,.slice none 0 0,.slice none 0 0] 26)∧(b 21=true→Bk w' g2 #[v0,v1,v2,v3,v4] 26)∧(b 20=true→m = .agg #[v0,v1,v2,v3,v4])∧(∀ i j k,D i k→D j k→i=j)∧(∀ i k,D i k→k<w'.heap.size)∧(b 0=true→b 3=false→Kd.R Kd.string 9 w' w.heap.size (D 0) u0 ([]:List ByteArray))∧(b 4=true→b 7=false→Kd.R Kd.string 9 w' w.heap.size (D 1) u1 ([]:List ByteArray))∧(b 8=true→b 11=false→Kd.R (Kd.int .i64) 3 w' w.heap.size (D 2) u2 ([]:List Int))∧(b 12=true→b 15=false→Kd.R (Kd.int .i64) 3 w' w.heap.size (D 3) u3 ([]:List Int))∧(b 16=true→b 19=false→Kd.R (Kd.int .i64) 3 w' w.heap.size (D 4) u4 ([]:List Int))∧(b 3=true→Kd.R Kd.string 9 w' w.heap.size (D 0) v0 l0_0)∧(b 7=true→Kd.R Kd.string 9 w' w.heap.size (D 1) v1 l0_1)∧(b 11=true→Kd.R (Kd.int .i64) 3 w' w.heap.size (D 2) v2 l0_2)∧(b 15=true→Kd.R (Kd.int .i64) 3 w' w.heap.size (D 3) v3 l0_3)∧(b 19=true→Kd.R (Kd.int .i64) 3 w' w.heap.size (D 4) v4 l0_4)) HT_.out HW_.out (by kernel_rfl) (by kernel_rfl) ?_ ?_ ?_
 ·exact ⟨.bool false,.bool false,.bool false,.bool false,.bool false,.bool false,.bool false,.bool false,.bool false,.bool false,.bool false,fun _ _=>False,by simp only [putSel,Bool.false_eq_true,if_false],HBd.out,BKa'.out,fun _=>BK2'.out,fun h_=>absurd h_ (by decide),fun h_=>absurd h_ (by decide),fun _ _ _ h_=>h_.elim,fun _ _ h_=>h_.elim,fun h_ _=>absurd h_ (by decide),fun h_ _=>absurd h_ (by decide),fun h_ _=>absurd h_ (by decide),fun h_ _=>absurd h_ (by decide),fun h_ _=>absurd h_ (by decide),fun h_=>absurd h_ (by decide),fun h_=>absurd h_ (by decide),fun h_=>absurd h_ (by decide),fun h_=>absurd h_ (by decide),fun h_=>absurd h_ (by decide)⟩
 ·clear BK2' HBd BKa'
  refine steps_cons ?_ ?_
  ·rintro b a w' ⟨u0,u1,u2,u3,u4,v0,v1,v2,v3,v4,m,D,ha,HB,QA,Qz,Qe,Qm,QD,QL,QU0,QU1,QU2,QU3,QU4,QV0,QV1,QV2,QV3,QV4⟩ hb_ hon hoff
   refine ⟨_,rfl,fun K hK=>?_⟩
   refine Kd.R_lit_step Kd.string (w0:=w') w'.heap.size 9 (by rfl) (N:=3) rfl (xs:=([]:List ByteArray)) (inner:=[]) (ok:=fun k=>k=w'.heap.size∨w'.heap.size≤k) (okp:=fun _=>False) (by first|(go_simp;done)|(go_simp;rfl)) ⟨rfl,fun j p hj=>by simp at hj⟩ (fun _ hk=>hk.elim) (.inl rfl) (Below.refl _ _) (Nat.le_refl _) (by simp) ?_
   intro x w5 ho hb5 hg5 hn5
   have hfit:=HB.size
   obtain ⟨D',hDi,hDj⟩:∃ D':Nat→Nat→Prop,(∀ k,D' 0 k↔w'.heap.size≤k∧k<w5.heap.size)∧∀ j,j ≠ 0→∀ k,D' j k↔D j k:=⟨fun j k=>if j=0 then w'.heap.size≤k∧k<w5.heap.size else D j k,fun k=>by simp,fun j hj k=>by simp [hj]⟩
   have hold:∀ j,j ≠ 0→∀ k,D j k→D' j k:=fun j hj k hk=>(hDj j hj k).2 hk
   have hDD:∀ i j k,D' i k→D' j k→i=j:=newD QD QL hDi hDj
   have hLL:∀ i k,D' i k→k<w5.heap.size:=newL QL hDi hDj hb5.size
   have hnew:=R_raise (b':=w.heap.size) (ok':=D' 0) ho (fun k hk=>⟨by have:=Kd.R_base ho k hk;omega,(hDi k).2 ⟨Kd.R_base ho k hk,Kd.R_lt ho k hk⟩⟩)
   refine hK.out _ _ ⟨x,u1,u2,u3,u4,v0,v1,v2,v3,v4,m,D',(by rw [ha];exact putSel_upk 0 hb_ rfl rfl rfl),below_step HB hb5,Bk.below QA hb5,fun h_=>Bk.below (Qz h_) hb5,fun h0_=>absurd ((hoff 21 (by kernel_rfl)).symm.trans h0_) (by decide),fun h0_=>absurd ((hoff 20 (by kernel_rfl)).symm.trans h0_) (by decide),hDD,hLL,fun _ _=>hnew,fun h_ h2_=>Kd.R_mono (Kd.R_below (QU1 h_ h2_) hb5) (fun k hk=>hold 1 (by decide) k hk),fun h_ h2_=>Kd.R_mono (Kd.R_below (QU2 h_ h2_) hb5) (fun k hk=>hold 2 (by decide) k hk),fun h_ h2_=>Kd.R_mono (Kd.R_below (QU3 h_ h2_) hb5) (fun k hk=>hold 3 (by decide) k hk),fun h_ h2_=>Kd.R_mono (Kd.R_below (QU4 h_ h2_) hb5) (fun k hk=>hold 4 (by decide) k hk),fun h0_=>absurd ((hoff 3 (by kernel_rfl)).symm.trans h0_) (by decide),fun h_=>Kd.R_mono (Kd.R_below (QV1 h_) hb5) (fun k hk=>hold 1 (by decide) k hk),fun h_=>Kd.R_mono (Kd.R_below (QV2 h_) hb5) (fun k hk=>hold 2 (by decide) k hk),fun h_=>Kd.R_mono (Kd.R_below (QV3 h_) hb5) (fun k hk=>hold 3 (by decide) k hk),fun h_=>Kd.R_mono (Kd.R_below (QV4 h_) hb5) (fun k hk=>hold 4 (by decide) k hk)⟩
  refine steps_cons ?_ ?_
  ·rintro b a w' ⟨u0,u1,u2,u3,u4,v0,v1,v2,v3,v4,m,D,ha,HB,QA,Qz,Qe,Qm,QD,QL,QU0,QU1,QU2,QU3,QU4,QV0,QV1,QV2,QV3,QV4⟩ hb_ hon hoff
   refine ⟨_,rfl,fun K hK=>?_⟩
   have e1:a.tmps[1]?=some (.pointer (some ⟨g1,0,none⟩)):=by rw [ha];exact (putSel_off rfl).trans rfl
   replace ha:=Ak ha
   refine value_ (w1:=w') (v:=.pointer (some ⟨g1,0,none⟩)) (by rfl) rfl ?_ ?_
   ·go_simp
    try rfl
   refine hK.out _ _ ⟨u0,u1,u2,u3,u4,v0,v1,v2,v3,v4,m,D,(by rw [ha.out];exact putSel_upk 1 hb_ rfl rfl rfl),HB,QA,Qz,fun h0_=>absurd ((hoff 21 (by kernel_rfl)).symm.trans h0_) (by decide),fun h0_=>absurd ((hoff 20 (by kernel_rfl)).symm.trans h0_) (by decide),QD,QL,QU0,QU1,QU2,QU3,QU4,fun h0_=>absurd ((hoff 3 (by kernel_rfl)).symm.trans h0_) (by decide),QV1,QV2,QV3,QV4⟩
  refine steps_cons ?_ ?_
  ·rintro b a w' ⟨u0,u1,u2,u3,u4,v0,v1,v2,v3,v4,m,D,ha,HB,QA,Qz,Qe,Qm,QD,QL,QU0,QU1,QU2,QU3,QU4,QV0,QV1,QV2,QV3,QV4⟩ hb_ hon hoff
   refine ⟨_,rfl,fun K hK=>?_⟩
   have e4:a.tmps[4]?=some (.pointer (some ⟨g1,0,none⟩)):=by rw [ha];exact putSel_on (e:=(1,4,.pointer (some ⟨g1,0,none⟩))) 1 rfl rfl (hon 1 (by kernel_rfl)) rfl
   have hc:w'.cell? ⟨g1,0,none⟩=some (.slice A0_0 l0_0.length c0_0):=(Bk.cell QA 0).trans rfl
   have HX:=Ak QA
   replace ha:=Ak ha
   refine value_ (w1:=w') (v:=.slice A0_0 l0_0.length c0_0) (by rfl) rfl ?_ ?_
   ·go_simp
    try rfl
   refine hK.out _ _ ⟨u0,u1,u2,u3,u4,v0,v1,v2,v3,v4,m,D,(by rw [ha.out];exact putSel_upk 2 hb_ rfl rfl rfl),HB,HX.out,Qz,fun h0_=>absurd ((hoff 21 (by kernel_rfl)).symm.trans h0_) (by decide),fun h0_=>absurd ((hoff 20 (by kernel_rfl)).symm.trans h0_) (by decide),QD,QL,QU0,QU1,QU2,QU3,QU4,fun h0_=>absurd ((hoff 3 (by kernel_rfl)).symm.trans h0_) (by decide),QV1,QV2,QV3,QV4⟩
  refine steps_cons ?_ ?_
  ·rintro b a w' ⟨u0,u1,u2,u3,u4,v0,v1,v2,v3,v4,m,D,ha,HB,QA,Qz,Qe,Qm,QD,QL,QU0,QU1,QU2,QU3,QU4,QV0,QV1,QV2,QV3,QV4⟩ hb_ hon hoff
   refine ⟨_,rfl,fun K hK=>?_⟩
   have e3:a.tmps[3]?=some u0:=by rw [ha];exact putSel_on (e:=(0,3,u0)) 0 rfl rfl (hon 0 (by kernel_rfl)) rfl
   have e5:a.tmps[5]?=some (.slice A0_0 l0_0.length c0_0):=by rw [ha];exact putSel_on (e:=(2,5,.slice A0_0 l0_0.length c0_0)) 2 rfl rfl (hon 2 (by kernel_rfl)) rfl
   have hU:=QU0 (hon 0 (by kernel_rfl)) hb_
   refine Kd.R_append_rows_step Kd.string (w0:=w) w.heap.size (by rfl) (.tmp 3) (.tmp 5) 23 9 (.string ⟨#[]⟩) 16 rfl Try.underlying23 info9 rfl (by decide) (by omega) u0 ([]:List ByteArray) l0_0 A0_0 l0_0.length c0_0 (fun k=>D 0 k∨w'.heap.size≤k) (fun _=>False) (eval_of e3) (eval_of e5) (Kd.R_mono hU (fun _ h_=>.inl h_)) (Kd.C_below HR0.out HB) (fun _ _ h_=>h_) (fun _ h_=>h_.elim) (fun _ h_=>.inr h_) HB HB.size (by have:=HL0.out;simp;omega) ?_
   intro x w5 ho hb5 hg5 hn5
   rw [List.nil_append] at ho
   have hne1:some g1 ≠ (u0:Value).ownBlock:=Kd.R_ne hU QA (by decide)
   have hne2:=fun h_=>(Kd.R_ne hU (Qz h_) (by decide):some g2 ≠ (u0:Value).ownBlock)
   have hU0:=hU.1
   obtain ⟨D',hDi,hDj⟩:∃ D':Nat→Nat→Prop,(∀ k,D' 0 k↔D 0 k∨(w'.heap.size≤k∧k<w5.heap.size))∧∀ j,j ≠ 0→∀ k,D' j k↔D j k:=⟨fun j k=>if j=0 then D 0 k∨(w'.heap.size≤k∧k<w5.heap.size) else D j k,fun k=>by simp,fun j hj k=>by simp [hj]⟩
   have hold:∀ j,j ≠ 0→∀ k,D j k→D' j k:=fun j hj k hk=>(hDj j hj k).2 hk
   have hDD:∀ i j k,D' i k→D' j k→i=j:=growD QD QL hDi hDj
   have hLL:∀ i k,D' i k→k<w5.heap.size:=growL QL hDi hDj hg5.size
   have hap:∀ j,j ≠ 0→∀ k,D j k→some k ≠ (u0:Value).ownBlock:=fun j hj k hk e_=>hj (QD j 0 k hk (hU0 k e_.symm))
   have hnew:=R_raise (b':=w.heap.size) (ok':=D' 0) ho (fun k hk=>⟨Kd.R_base ho k hk,(hDi k).2 (by rcases ho.1 k hk with h_|h_;exact .inl h_;exact .inr ⟨h_,Kd.R_lt ho k hk⟩)⟩)
   refine hK.out _ _ ⟨u0,u1,u2,u3,u4,x,v1,v2,v3,v4,m,D',(by rw [ha];exact putSel_upk 3 hb_ rfl rfl rfl),hb5,blk_grown QA hg5 hne1,fun h_=>blk_grown (Qz h_) hg5 (hne2 h_),fun h0_=>absurd ((hoff 21 (by kernel_rfl)).symm.trans h0_) (by decide),fun h0_=>absurd ((hoff 20 (by kernel_rfl)).symm.trans h0_) (by decide),hDD,hLL,fun h_ h2_=>absurd h2_ (by rw [up_self];decide),fun h_ h2_=>Kd.R_mono (Kd.R_grown (QU1 h_ h2_) hg5 (hap 1 (by decide))) (fun k hk=>hold 1 (by decide) k hk),fun h_ h2_=>Kd.R_mono (Kd.R_grown (QU2 h_ h2_) hg5 (hap 2 (by decide))) (fun k hk=>hold 2 (by decide) k hk),fun h_ h2_=>Kd.R_mono (Kd.R_grown (QU3 h_ h2_) hg5 (hap 3 (by decide))) (fun k hk=>hold 3 (by decide) k hk),fun h_ h2_=>Kd.R_mono (Kd.R_grown (QU4 h_ h2_) hg5 (hap 4 (by decide))) (fun k hk=>hold 4 (by decide) k hk),fun _=>hnew,fun h_=>Kd.R_mono (Kd.R_grown (QV1 h_) hg5 (hap 1 (by decide))) (fun k hk=>hold 1 (by decide) k hk),fun h_=>Kd.R_mono (Kd.R_grown (QV2 h_) hg5 (hap 2 (by decide))) (fun k hk=>hold 2 (by decide) k hk),fun h_=>Kd.R_mono (Kd.R_grown (QV3 h_) hg5 (hap 3 (by decide))) (fun k hk=>hold 3 (by decide) k hk),fun h_=>Kd.R_mono (Kd.R_grown (QV4 h_) hg5 (hap 4 (by decide))) (fun k hk=>hold 4 (by decide) k hk)⟩
  refine steps_cons ?_ ?_
  ·rintro b a w' ⟨u0,u1,u2,u3,u4,v0,v1,v2,v3,v4,m,D,ha,HB,QA,Qz,Qe,Qm,QD,QL,QU0,QU1,QU2,QU3,QU4,QV0,QV1,QV2,QV3,QV4⟩ hb_ hon hoff
   refine ⟨_,rfl,fun K hK=>?_⟩
   refine Kd.R_lit_step Kd.string (w0:=w') w'.heap.size 9 (by rfl) (N:=7) rfl (xs:=([]:List ByteArray)) (inner:=[]) (ok:=fun k=>k=w'.heap.size∨w'.heap.size≤k) (okp:=fun _=>False) (by first|(go_simp;done)|(go_simp;rfl)) ⟨rfl,fun j p hj=>by simp at hj⟩ (fun _ hk=>hk.elim) (.inl rfl) (Below.refl _ _) (Nat.le_refl _) (by simp) ?_
   intro x w5 ho hb5 hg5 hn5
   have hfit:=HB.size
   obtain ⟨D',hDi,hDj⟩:∃ D':Nat→Nat→Prop,(∀ k,D' 1 k↔w'.heap.size≤k∧k<w5.heap.size)∧∀ j,j ≠ 1→∀ k,D' j k↔D j k:=⟨fun j k=>if j=1 then w'.heap.size≤k∧k<w5.heap.size else D j k,fun k=>by simp,fun j hj k=>by simp [hj]⟩
   have hold:∀ j,j ≠ 1→∀ k,D j k→D' j k:=fun j hj k hk=>(hDj j hj k).2 hk
   have hDD:∀ i j k,D' i k→D' j k→i=j:=newD QD QL hDi hDj
   have hLL:∀ i k,D' i k→k<w5.heap.size:=newL QL hDi hDj hb5.size
   have hnew:=R_raise (b':=w.heap.size) (ok':=D' 1) ho (fun k hk=>⟨by have:=Kd.R_base ho k hk;omega,(hDi k).2 ⟨Kd.R_base ho k hk,Kd.R_lt ho k hk⟩⟩)
   refine hK.out _ _ ⟨u0,x,u2,u3,u4,v0,v1,v2,v3,v4,m,D',(by rw [ha];exact putSel_upk 4 hb_ rfl rfl rfl),below_step HB hb5,Bk.below QA hb5,fun h_=>Bk.below (Qz h_) hb5,fun h0_=>absurd ((hoff 21 (by kernel_rfl)).symm.trans h0_) (by decide),fun h0_=>absurd ((hoff 20 (by kernel_rfl)).symm.trans h0_) (by decide),hDD,hLL,fun h_ h2_=>Kd.R_mono (Kd.R_below (QU0 h_ h2_) hb5) (fun k hk=>hold 0 (by decide) k hk),fun _ _=>hnew,fun h_ h2_=>Kd.R_mono (Kd.R_below (QU2 h_ h2_) hb5) (fun k hk=>hold 2 (by decide) k hk),fun h_ h2_=>Kd.R_mono (Kd.R_below (QU3 h_ h2_) hb5) (fun k hk=>hold 3 (by decide) k hk),fun h_ h2_=>Kd.R_mono (Kd.R_below (QU4 h_ h2_) hb5) (fun k hk=>hold 4 (by decide) k hk),fun h_=>Kd.R_mono (Kd.R_below (QV0 h_) hb5) (fun k hk=>hold 0 (by decide) k hk),fun h0_=>absurd ((hoff 7 (by kernel_rfl)).symm.trans h0_) (by decide),fun h_=>Kd.R_mono (Kd.R_below (QV2 h_) hb5) (fun k hk=>hold 2 (by decide) k hk),fun h_=>Kd.R_mono (Kd.R_below (QV3 h_) hb5) (fun k hk=>hold 3 (by decide) k hk),fun h_=>Kd.R_mono (Kd.R_below (QV4 h_) hb5) (fun k hk=>hold 4 (by decide) k hk)⟩
  refine steps_cons ?_ ?_
  ·rintro b a w' ⟨u0,u1,u2,u3,u4,v0,v1,v2,v3,v4,m,D,ha,HB,QA,Qz,Qe,Qm,QD,QL,QU0,QU1,QU2,QU3,QU4,QV0,QV1,QV2,QV3,QV4⟩ hb_ hon hoff
   refine ⟨_,rfl,fun K hK=>?_⟩
   have e1:a.tmps[1]?=some (.pointer (some ⟨g1,0,none⟩)):=by rw [ha];exact (putSel_off rfl).trans rfl
   replace ha:=Ak ha
   refine value_ (w1:=w') (v:=.pointer (some ⟨g1,1,none⟩)) (by rfl) rfl ?_ ?_
   ·go_simp
    try rfl
   refine hK.out _ _ ⟨u0,u1,u2,u3,u4,v0,v1,v2,v3,v4,m,D,(by rw [ha.out];exact putSel_upk 5 hb_ rfl rfl rfl),HB,QA,Qz,fun h0_=>absurd ((hoff 21 (by kernel_rfl)).symm.trans h0_) (by decide),fun h0_=>absurd ((hoff 20 (by kernel_rfl)).symm.trans h0_) (by decide),QD,QL,QU0,QU1,QU2,QU3,QU4,QV0,fun h0_=>absurd ((hoff 7 (by kernel_rfl)).symm.trans h0_) (by decide),QV2,QV3,QV4⟩
  refine steps_cons ?_ ?_
  ·rintro b a w' ⟨u0,u1,u2,u3,u4,v0,v1,v2,v3,v4,m,D,ha,HB,QA,Qz,Qe,Qm,QD,QL,QU0,QU1,QU2,QU3,QU4,QV0,QV1,QV2,QV3,QV4⟩ hb_ hon hoff
   refine ⟨_,rfl,fun K hK=>?_⟩
   have e4:a.tmps[8]?=some (.pointer (some ⟨g1,1,none⟩)):=by rw [ha];exact putSel_on (e:=(5,8,.pointer (some ⟨g1,1,none⟩))) 5 rfl rfl (hon 5 (by kernel_rfl)) rfl
   have hc:w'.cell? ⟨g1,1,none⟩=some (.slice A0_1 l0_1.length c0_1):=(Bk.cell QA 1).trans rfl
   have HX:=Ak QA
   replace ha:=Ak ha
   refine value_ (w1:=w') (v:=.slice A0_1 l0_1.length c0_1) (by rfl) rfl ?_ ?_
   ·go_simp
    try rfl
   refine hK.out _ _ ⟨u0,u1,u2,u3,u4,v0,v1,v2,v3,v4,m,D,(by rw [ha.out];exact putSel_upk 6 hb_ rfl rfl rfl),HB,HX.out,Qz,fun h0_=>absurd ((hoff 21 (by kernel_rfl)).symm.trans h0_) (by decide),fun h0_=>absurd ((hoff 20 (by kernel_rfl)).symm.trans h0_) (by decide),QD,QL,QU0,QU1,QU2,QU3,QU4,QV0,fun h0_=>absurd ((hoff 7 (by kernel_rfl)).symm.trans h0_) (by decide),QV2,QV3,QV4⟩
  refine steps_cons ?_ ?_
  ·rintro b a w' ⟨u0,u1,u2,u3,u4,v0,v1,v2,v3,v4,m,D,ha,HB,QA,Qz,Qe,Qm,QD,QL,QU0,QU1,QU2,QU3,QU4,QV0,QV1,QV2,QV3,QV4⟩ hb_ hon hoff
   refine ⟨_,rfl,fun K hK=>?_⟩
   have e3:a.tmps[7]?=some u1:=by rw [ha];exact putSel_on (e:=(4,7,u1)) 4 rfl rfl (hon 4 (by kernel_rfl)) rfl
   have e5:a.tmps[9]?=some (.slice A0_1 l0_1.length c0_1):=by rw [ha];exact putSel_on (e:=(6,9,.slice A0_1 l0_1.length c0_1)) 6 rfl rfl (hon 6 (by kernel_rfl)) rfl
   have hU:=QU1 (hon 4 (by kernel_rfl)) hb_
   refine Kd.R_append_rows_step Kd.string (w0:=w) w.heap.size (by rfl) (.tmp 7) (.tmp 9) 23 9 (.string ⟨#[]⟩) 16 rfl Try.underlying23 info9 rfl (by decide) (by omega) u1 ([]:List ByteArray) l0_1 A0_1 l0_1.length c0_1 (fun k=>D 1 k∨w'.heap.size≤k) (fun _=>False) (eval_of e3) (eval_of e5) (Kd.R_mono hU (fun _ h_=>.inl h_)) (Kd.C_below HR1.out HB) (fun _ _ h_=>h_) (fun _ h_=>h_.elim) (fun _ h_=>.inr h_) HB HB.size (by have:=HL1.out;simp;omega) ?_
   intro x w5 ho hb5 hg5 hn5
   rw [List.nil_append] at ho
   have hne1:some g1 ≠ (u1:Value).ownBlock:=Kd.R_ne hU QA (by decide)
   have hne2:=fun h_=>(Kd.R_ne hU (Qz h_) (by decide):some g2 ≠ (u1:Value).ownBlock)
   have hU0:=hU.1
   obtain ⟨D',hDi,hDj⟩:∃ D':Nat→Nat→Prop,(∀ k,D' 1 k↔D 1 k∨(w'.heap.size≤k∧k<w5.heap.size))∧∀ j,j ≠ 1→∀ k,D' j k↔D j k:=⟨fun j k=>if j=1 then D 1 k∨(w'.heap.size≤k∧k<w5.heap.size) else D j k,fun k=>by simp,fun j hj k=>by simp [hj]⟩
   have hold:∀ j,j ≠ 1→∀ k,D j k→D' j k:=fun j hj k hk=>(hDj j hj k).2 hk
   have hDD:∀ i j k,D' i k→D' j k→i=j:=growD QD QL hDi hDj
   have hLL:∀ i k,D' i k→k<w5.heap.size:=growL QL hDi hDj hg5.size
   have hap:∀ j,j ≠ 1→∀ k,D j k→some k ≠ (u1:Value).ownBlock:=fun j hj k hk e_=>hj (QD j 1 k hk (hU0 k e_.symm))
   have hnew:=R_raise (b':=w.heap.size) (ok':=D' 1) ho (fun k hk=>⟨Kd.R_base ho k hk,(hDi k).2 (by rcases ho.1 k hk with h_|h_;exact .inl h_;exact .inr ⟨h_,Kd.R_lt ho k hk⟩)⟩)
   refine hK.out _ _ ⟨u0,u1,u2,u3,u4,v0,x,v2,v3,v4,m,D',(by rw [ha];exact putSel_upk 7 hb_ rfl rfl rfl),hb5,blk_grown QA hg5 hne1,fun h_=>blk_grown (Qz h_) hg5 (hne2 h_),fun h0_=>absurd ((hoff 21 (by kernel_rfl)).symm.trans h0_) (by decide),fun h0_=>absurd ((hoff 20 (by kernel_rfl)).symm.trans h0_) (by decide),hDD,hLL,fun h_ h2_=>Kd.R_mono (Kd.R_grown (QU0 h_ h2_) hg5 (hap 0 (by decide))) (fun k hk=>hold 0 (by decide) k hk),fun h_ h2_=>absurd h2_ (by rw [up_self];decide),fun h_ h2_=>Kd.R_mono (Kd.R_grown (QU2 h_ h2_) hg5 (hap 2 (by decide))) (fun k hk=>hold 2 (by decide) k hk),fun h_ h2_=>Kd.R_mono (Kd.R_grown (QU3 h_ h2_) hg5 (hap 3 (by decide))) (fun k hk=>hold 3 (by decide) k hk),fun h_ h2_=>Kd.R_mono (Kd.R_grown (QU4 h_ h2_) hg5 (hap 4 (by decide))) (fun k hk=>hold 4 (by decide) k hk),fun h_=>Kd.R_mono (Kd.R_grown (QV0 h_) hg5 (hap 0 (by decide))) (fun k hk=>hold 0 (by decide) k hk),fun _=>hnew,fun h_=>Kd.R_mono (Kd.R_grown (QV2 h_) hg5 (hap 2 (by decide))) (fun k hk=>hold 2 (by decide) k hk),fun h_=>Kd.R_mono (Kd.R_grown (QV3 h_) hg5 (hap 3 (by decide))) (fun k hk=>hold 3 (by decide) k hk),fun h_=>Kd.R_mono (Kd.R_grown (QV4 h_) hg5 (hap 4 (by decide))) (fun k hk=>hold 4 (by decide) k hk)⟩
  refine steps_cons ?_ ?_
  ·rintro b a w' ⟨u0,u1,u2,u3,u4,v0,v1,v2,v3,v4,m,D,ha,HB,QA,Qz,Qe,Qm,QD,QL,QU0,QU1,QU2,QU3,QU4,QV0,QV1,QV2,QV3,QV4⟩ hb_ hon hoff
   refine ⟨_,rfl,fun K hK=>?_⟩
   refine Kd.R_lit_step (Kd.int .i64) (w0:=w') w'.heap.size 3 (by rfl) (N:=11) rfl (xs:=([]:List Int)) (inner:=[]) (ok:=fun k=>k=w'.heap.size∨w'.heap.size≤k) (okp:=fun _=>False) (by first|(go_simp;done)|(go_simp;rfl)) ⟨rfl,fun j p hj=>by simp at hj⟩ (fun _ hk=>hk.elim) (.inl rfl) (Below.refl _ _) (Nat.le_refl _) (by simp) ?_
   intro x w5 ho hb5 hg5 hn5
   have hfit:=HB.size
   obtain ⟨D',hDi,hDj⟩:∃ D':Nat→Nat→Prop,(∀ k,D' 2 k↔w'.heap.size≤k∧k<w5.heap.size)∧∀ j,j ≠ 2→∀ k,D' j k↔D j k:=⟨fun j k=>if j=2 then w'.heap.size≤k∧k<w5.heap.size else D j k,fun k=>by simp,fun j hj k=>by simp [hj]⟩
   have hold:∀ j,j ≠ 2→∀ k,D j k→D' j k:=fun j hj k hk=>(hDj j hj k).2 hk
   have hDD:∀ i j k,D' i k→D' j k→i=j:=newD QD QL hDi hDj
   have hLL:∀ i k,D' i k→k<w5.heap.size:=newL QL hDi hDj hb5.size
   have hnew:=R_raise (b':=w.heap.size) (ok':=D' 2) ho (fun k hk=>⟨by have:=Kd.R_base ho k hk;omega,(hDi k).2 ⟨Kd.R_base ho k hk,Kd.R_lt ho k hk⟩⟩)
   refine hK.out _ _ ⟨u0,u1,x,u3,u4,v0,v1,v2,v3,v4,m,D',(by rw [ha];exact putSel_upk 8 hb_ rfl rfl rfl),below_step HB hb5,Bk.below QA hb5,fun h_=>Bk.below (Qz h_) hb5,fun h0_=>absurd ((hoff 21 (by kernel_rfl)).symm.trans h0_) (by decide),fun h0_=>absurd ((hoff 20 (by kernel_rfl)).symm.trans h0_) (by decide),hDD,hLL,fun h_ h2_=>Kd.R_mono (Kd.R_below (QU0 h_ h2_) hb5) (fun k hk=>hold 0 (by decide) k hk),fun h_ h2_=>Kd.R_mono (Kd.R_below (QU1 h_ h2_) hb5) (fun k hk=>hold 1 (by decide) k hk),fun _ _=>hnew,fun h_ h2_=>Kd.R_mono (Kd.R_below (QU3 h_ h2_) hb5) (fun k hk=>hold 3 (by decide) k hk),fun h_ h2_=>Kd.R_mono (Kd.R_below (QU4 h_ h2_) hb5) (fun k hk=>hold 4 (by decide) k hk),fun h_=>Kd.R_mono (Kd.R_below (QV0 h_) hb5) (fun k hk=>hold 0 (by decide) k hk),fun h_=>Kd.R_mono (Kd.R_below (QV1 h_) hb5) (fun k hk=>hold 1 (by decide) k hk),fun h0_=>absurd ((hoff 11 (by kernel_rfl)).symm.trans h0_) (by decide),fun h_=>Kd.R_mono (Kd.R_below (QV3 h_) hb5) (fun k hk=>hold 3 (by decide) k hk),fun h_=>Kd.R_mono (Kd.R_below (QV4 h_) hb5) (fun k hk=>hold 4 (by decide) k hk)⟩
  refine steps_cons ?_ ?_
  ·rintro b a w' ⟨u0,u1,u2,u3,u4,v0,v1,v2,v3,v4,m,D,ha,HB,QA,Qz,Qe,Qm,QD,QL,QU0,QU1,QU2,QU3,QU4,QV0,QV1,QV2,QV3,QV4⟩ hb_ hon hoff
   refine ⟨_,rfl,fun K hK=>?_⟩
   have e1:a.tmps[1]?=some (.pointer (some ⟨g1,0,none⟩)):=by rw [ha];exact (putSel_off rfl).trans rfl
   replace ha:=Ak ha
   refine value_ (w1:=w') (v:=.pointer (some ⟨g1,2,none⟩)) (by rfl) rfl ?_ ?_
   ·go_simp
    try rfl
   refine hK.out _ _ ⟨u0,u1,u2,u3,u4,v0,v1,v2,v3,v4,m,D,(by rw [ha.out];exact putSel_upk 9 hb_ rfl rfl rfl),HB,QA,Qz,fun h0_=>absurd ((hoff 21 (by kernel_rfl)).symm.trans h0_) (by decide),fun h0_=>absurd ((hoff 20 (by kernel_rfl)).symm.trans h0_) (by decide),QD,QL,QU0,QU1,QU2,QU3,QU4,QV0,QV1,fun h0_=>absurd ((hoff 11 (by kernel_rfl)).symm.trans h0_) (by decide),QV3,QV4⟩
  refine steps_cons ?_ ?_
  ·rintro b a w' ⟨u0,u1,u2,u3,u4,v0,v1,v2,v3,v4,m,D,ha,HB,QA,Qz,Qe,Qm,QD,QL,QU0,QU1,QU2,QU3,QU4,QV0,QV1,QV2,QV3,QV4⟩ hb_ hon hoff
   refine ⟨_,rfl,fun K hK=>?_⟩
   have e4:a.tmps[12]?=some (.pointer (some ⟨g1,2,none⟩)):=by rw [ha];exact putSel_on (e:=(9,12,.pointer (some ⟨g1,2,none⟩))) 9 rfl rfl (hon 9 (by kernel_rfl)) rfl
   have hc:w'.cell? ⟨g1,2,none⟩=some (.slice A0_2 l0_2.length c0_2):=(Bk.cell QA 2).trans rfl
   have HX:=Ak QA
   replace ha:=Ak ha
   refine value_ (w1:=w') (v:=.slice A0_2 l0_2.length c0_2) (by rfl) rfl ?_ ?_
   ·go_simp
    try rfl
   refine hK.out _ _ ⟨u0,u1,u2,u3,u4,v0,v1,v2,v3,v4,m,D,(by rw [ha.out];exact putSel_upk 10 hb_ rfl rfl rfl),HB,HX.out,Qz,fun h0_=>absurd ((hoff 21 (by kernel_rfl)).symm.trans h0_) (by decide),fun h0_=>absurd ((hoff 20 (by kernel_rfl)).symm.trans h0_) (by decide),QD,QL,QU0,QU1,QU2,QU3,QU4,QV0,QV1,fun h0_=>absurd ((hoff 11 (by kernel_rfl)).symm.trans h0_) (by decide),QV3,QV4⟩
  refine steps_cons ?_ ?_
  ·rintro b a w' ⟨u0,u1,u2,u3,u4,v0,v1,v2,v3,v4,m,D,ha,HB,QA,Qz,Qe,Qm,QD,QL,QU0,QU1,QU2,QU3,QU4,QV0,QV1,QV2,QV3,QV4⟩ hb_ hon hoff
   refine ⟨_,rfl,fun K hK=>?_⟩
   have e3:a.tmps[11]?=some u2:=by rw [ha];exact putSel_on (e:=(8,11,u2)) 8 rfl rfl (hon 8 (by kernel_rfl)) rfl
   have e5:a.tmps[13]?=some (.slice A0_2 l0_2.length c0_2):=by rw [ha];exact putSel_on (e:=(10,13,.slice A0_2 l0_2.length c0_2)) 10 rfl rfl (hon 10 (by kernel_rfl)) rfl
   have hU:=QU2 (hon 8 (by kernel_rfl)) hb_
   refine Kd.R_append_rows_step (Kd.int .i64) (w0:=w) w.heap.size (by rfl) (.tmp 11) (.tmp 13) 24 3 (.int .i64 0) 8 rfl Try.underlying24 info3 rfl (by decide) (by omega) u2 ([]:List Int) l0_2 A0_2 l0_2.length c0_2 (fun k=>D 2 k∨w'.heap.size≤k) (fun _=>False) (eval_of e3) (eval_of e5) (Kd.R_mono hU (fun _ h_=>.inl h_)) (Kd.C_below HR2.out HB) (fun _ _ h_=>h_) (fun _ h_=>h_.elim) (fun _ h_=>.inr h_) HB HB.size (by have:=HL2.out;simp;omega) ?_
   intro x w5 ho hb5 hg5 hn5
   rw [List.nil_append] at ho
   have hne1:some g1 ≠ (u2:Value).ownBlock:=Kd.R_ne hU QA (by decide)
   have hne2:=fun h_=>(Kd.R_ne hU (Qz h_) (by decide):some g2 ≠ (u2:Value).ownBlock)
   have hU0:=hU.1
   obtain ⟨D',hDi,hDj⟩:∃ D':Nat→Nat→Prop,(∀ k,D' 2 k↔D 2 k∨(w'.heap.size≤k∧k<w5.heap.size))∧∀ j,j ≠ 2→∀ k,D' j k↔D j k:=⟨fun j k=>if j=2 then D 2 k∨(w'.heap.size≤k∧k<w5.heap.size) else D j k,fun k=>by simp,fun j hj k=>by simp [hj]⟩
   have hold:∀ j,j ≠ 2→∀ k,D j k→D' j k:=fun j hj k hk=>(hDj j hj k).2 hk
   have hDD:∀ i j k,D' i k→D' j k→i=j:=growD QD QL hDi hDj
   have hLL:∀ i k,D' i k→k<w5.heap.size:=growL QL hDi hDj hg5.size
   have hap:∀ j,j ≠ 2→∀ k,D j k→some k ≠ (u2:Value).ownBlock:=fun j hj k hk e_=>hj (QD j 2 k hk (hU0 k e_.symm))
   have hnew:=R_raise (b':=w.heap.size) (ok':=D' 2) ho (fun k hk=>⟨Kd.R_base ho k hk,(hDi k).2 (by rcases ho.1 k hk with h_|h_;exact .inl h_;exact .inr ⟨h_,Kd.R_lt ho k hk⟩)⟩)
   refine hK.out _ _ ⟨u0,u1,u2,u3,u4,v0,v1,x,v3,v4,m,D',(by rw [ha];exact putSel_upk 11 hb_ rfl rfl rfl),hb5,blk_grown QA hg5 hne1,fun h_=>blk_grown (Qz h_) hg5 (hne2 h_),fun h0_=>absurd ((hoff 21 (by kernel_rfl)).symm.trans h0_) (by decide),fun h0_=>absurd ((hoff 20 (by kernel_rfl)).symm.trans h0_) (by decide),hDD,hLL,fun h_ h2_=>Kd.R_mono (Kd.R_grown (QU0 h_ h2_) hg5 (hap 0 (by decide))) (fun k hk=>hold 0 (by decide) k hk),fun h_ h2_=>Kd.R_mono (Kd.R_grown (QU1 h_ h2_) hg5 (hap 1 (by decide))) (fun k hk=>hold 1 (by decide) k hk),fun h_ h2_=>absurd h2_ (by rw [up_self];decide),fun h_ h2_=>Kd.R_mono (Kd.R_grown (QU3 h_ h2_) hg5 (hap 3 (by decide))) (fun k hk=>hold 3 (by decide) k hk),fun h_ h2_=>Kd.R_mono (Kd.R_grown (QU4 h_ h2_) hg5 (hap 4 (by decide))) (fun k hk=>hold 4 (by decide) k hk),fun h_=>Kd.R_mono (Kd.R_grown (QV0 h_) hg5 (hap 0 (by decide))) (fun k hk=>hold 0 (by decide) k hk),fun h_=>Kd.R_mono (Kd.R_grown (QV1 h_) hg5 (hap 1 (by decide))) (fun k hk=>hold 1 (by decide) k hk),fun _=>hnew,fun h_=>Kd.R_mono (Kd.R_grown (QV3 h_) hg5 (hap 3 (by decide))) (fun k hk=>hold 3 (by decide) k hk),fun h_=>Kd.R_mono (Kd.R_grown (QV4 h_) hg5 (hap 4 (by decide))) (fun k hk=>hold 4 (by decide) k hk)⟩
  refine steps_cons ?_ ?_
  ·rintro b a w' ⟨u0,u1,u2,u3,u4,v0,v1,v2,v3,v4,m,D,ha,HB,QA,Qz,Qe,Qm,QD,QL,QU0,QU1,QU2,QU3,QU4,QV0,QV1,QV2,QV3,QV4⟩ hb_ hon hoff
   refine ⟨_,rfl,fun K hK=>?_⟩
   refine Kd.R_lit_step (Kd.int .i64) (w0:=w') w'.heap.size 3 (by rfl) (N:=15) rfl (xs:=([]:List Int)) (inner:=[]) (ok:=fun k=>k=w'.heap.size∨w'.heap.size≤k) (okp:=fun _=>False) (by first|(go_simp;done)|(go_simp;rfl)) ⟨rfl,fun j p hj=>by simp at hj⟩ (fun _ hk=>hk.elim) (.inl rfl) (Below.refl _ _) (Nat.le_refl _) (by simp) ?_
   intro x w5 ho hb5 hg5 hn5
   have hfit:=HB.size
   obtain ⟨D',hDi,hDj⟩:∃ D':Nat→Nat→Prop,(∀ k,D' 3 k↔w'.heap.size≤k∧k<w5.heap.size)∧∀ j,j ≠ 3→∀ k,D' j k↔D j k:=⟨fun j k=>if j=3 then w'.heap.size≤k∧k<w5.heap.size else D j k,fun k=>by simp,fun j hj k=>by simp [hj]⟩
   have hold:∀ j,j ≠ 3→∀ k,D j k→D' j k:=fun j hj k hk=>(hDj j hj k).2 hk
   have hDD:∀ i j k,D' i k→D' j k→i=j:=newD QD QL hDi hDj
   have hLL:∀ i k,D' i k→k<w5.heap.size:=newL QL hDi hDj hb5.size
   have hnew:=R_raise (b':=w.heap.size) (ok':=D' 3) ho (fun k hk=>⟨by have:=Kd.R_base ho k hk;omega,(hDi k).2 ⟨Kd.R_base ho k hk,Kd.R_lt ho k hk⟩⟩)
   refine hK.out _ _ ⟨u0,u1,u2,x,u4,v0,v1,v2,v3,v4,m,D',(by rw [ha];exact putSel_upk 12 hb_ rfl rfl rfl),below_step HB hb5,Bk.below QA hb5,fun h_=>Bk.below (Qz h_) hb5,fun h0_=>absurd ((hoff 21 (by kernel_rfl)).symm.trans h0_) (by decide),fun h0_=>absurd ((hoff 20 (by kernel_rfl)).symm.trans h0_) (by decide),hDD,hLL,fun h_ h2_=>Kd.R_mono (Kd.R_below (QU0 h_ h2_) hb5) (fun k hk=>hold 0 (by decide) k hk),fun h_ h2_=>Kd.R_mono (Kd.R_below (QU1 h_ h2_) hb5) (fun k hk=>hold 1 (by decide) k hk),fun h_ h2_=>Kd.R_mono (Kd.R_below (QU2 h_ h2_) hb5) (fun k hk=>hold 2 (by decide) k hk),fun _ _=>hnew,fun h_ h2_=>Kd.R_mono (Kd.R_below (QU4 h_ h2_) hb5) (fun k hk=>hold 4 (by decide) k hk),fun h_=>Kd.R_mono (Kd.R_below (QV0 h_) hb5) (fun k hk=>hold 0 (by decide) k hk),fun h_=>Kd.R_mono (Kd.R_below (QV1 h_) hb5) (fun k hk=>hold 1 (by decide) k hk),fun h_=>Kd.R_mono (Kd.R_below (QV2 h_) hb5) (fun k hk=>hold 2 (by decide) k hk),fun h0_=>absurd ((hoff 15 (by kernel_rfl)).symm.trans h0_) (by decide),fun h_=>Kd.R_mono (Kd.R_below (QV4 h_) hb5) (fun k hk=>hold 4 (by decide) k hk)⟩
  refine steps_cons ?_ ?_
  ·rintro b a w' ⟨u0,u1,u2,u3,u4,v0,v1,v2,v3,v4,m,D,ha,HB,QA,Qz,Qe,Qm,QD,QL,QU0,QU1,QU2,QU3,QU4,QV0,QV1,QV2,QV3,QV4⟩ hb_ hon hoff
   refine ⟨_,rfl,fun K hK=>?_⟩
   have e1:a.tmps[1]?=some (.pointer (some ⟨g1,0,none⟩)):=by rw [ha];exact (putSel_off rfl).trans rfl
   replace ha:=Ak ha
   refine value_ (w1:=w') (v:=.pointer (some ⟨g1,3,none⟩)) (by rfl) rfl ?_ ?_
   ·go_simp
    try rfl
   refine hK.out _ _ ⟨u0,u1,u2,u3,u4,v0,v1,v2,v3,v4,m,D,(by rw [ha.out];exact putSel_upk 13 hb_ rfl rfl rfl),HB,QA,Qz,fun h0_=>absurd ((hoff 21 (by kernel_rfl)).symm.trans h0_) (by decide),fun h0_=>absurd ((hoff 20 (by kernel_rfl)).symm.trans h0_) (by decide),QD,QL,QU0,QU1,QU2,QU3,QU4,QV0,QV1,QV2,fun h0_=>absurd ((hoff 15 (by kernel_rfl)).symm.trans h0_) (by decide),QV4⟩
  refine steps_cons ?_ ?_
  ·rintro b a w' ⟨u0,u1,u2,u3,u4,v0,v1,v2,v3,v4,m,D,ha,HB,QA,Qz,Qe,Qm,QD,QL,QU0,QU1,QU2,QU3,QU4,QV0,QV1,QV2,QV3,QV4⟩ hb_ hon hoff
   refine ⟨_,rfl,fun K hK=>?_⟩
   have e4:a.tmps[16]?=some (.pointer (some ⟨g1,3,none⟩)):=by rw [ha];exact putSel_on (e:=(13,16,.pointer (some ⟨g1,3,none⟩))) 13 rfl rfl (hon 13 (by kernel_rfl)) rfl
   have hc:w'.cell? ⟨g1,3,none⟩=some (.slice A0_3 l0_3.length c0_3):=(Bk.cell QA 3).trans rfl
   have HX:=Ak QA
   replace ha:=Ak ha
   refine value_ (w1:=w') (v:=.slice A0_3 l0_3.length c0_3) (by rfl) rfl ?_ ?_
   ·go_simp
    try rfl
   refine hK.out _ _ ⟨u0,u1,u2,u3,u4,v0,v1,v2,v3,v4,m,D,(by rw [ha.out];exact putSel_upk 14 hb_ rfl rfl rfl),HB,HX.out,Qz,fun h0_=>absurd ((hoff 21 (by kernel_rfl)).symm.trans h0_) (by decide),fun h0_=>absurd ((hoff 20 (by kernel_rfl)).symm.trans h0_) (by decide),QD,QL,QU0,QU1,QU2,QU3,QU4,QV0,QV1,QV2,fun h0_=>absurd ((hoff 15 (by kernel_rfl)).symm.trans h0_) (by decide),QV4⟩
  refine steps_cons ?_ ?_
  ·rintro b a w' ⟨u0,u1,u2,u3,u4,v0,v1,v2,v3,v4,m,D,ha,HB,QA,Qz,Qe,Qm,QD,QL,QU0,QU1,QU2,QU3,QU4,QV0,QV1,QV2,QV3,QV4⟩ hb_ hon hoff
   refine ⟨_,rfl,fun K hK=>?_⟩
   have e3:a.tmps[15]?=some u3:=by rw [ha];exact putSel_on (e:=(12,15,u3)) 12 rfl rfl (hon 12 (by kernel_rfl)) rfl
   have e5:a.tmps[17]?=some (.slice A0_3 l0_3.length c0_3):=by rw [ha];exact putSel_on (e:=(14,17,.slice A0_3 l0_3.length c0_3)) 14 rfl rfl (hon 14 (by kernel_rfl)) rfl
   have hU:=QU3 (hon 12 (by kernel_rfl)) hb_
   refine Kd.R_append_rows_step (Kd.int .i64) (w0:=w) w.heap.size (by rfl) (.tmp 15) (.tmp 17) 24 3 (.int .i64 0) 8 rfl Try.underlying24 info3 rfl (by decide) (by omega) u3 ([]:List Int) l0_3 A0_3 l0_3.length c0_3 (fun k=>D 3 k∨w'.heap.size≤k) (fun _=>False) (eval_of e3) (eval_of e5) (Kd.R_mono hU (fun _ h_=>.inl h_)) (Kd.C_below HR3.out HB) (fun _ _ h_=>h_) (fun _ h_=>h_.elim) (fun _ h_=>.inr h_) HB HB.size (by have:=HL3.out;simp;omega) ?_
   intro x w5 ho hb5 hg5 hn5
   rw [List.nil_append] at ho
   have hne1:some g1 ≠ (u3:Value).ownBlock:=Kd.R_ne hU QA (by decide)
   have hne2:=fun h_=>(Kd.R_ne hU (Qz h_) (by decide):some g2 ≠ (u3:Value).ownBlock)
   have hU0:=hU.1
   obtain ⟨D',hDi,hDj⟩:∃ D':Nat→Nat→Prop,(∀ k,D' 3 k↔D 3 k∨(w'.heap.size≤k∧k<w5.heap.size))∧∀ j,j ≠ 3→∀ k,D' j k↔D j k:=⟨fun j k=>if j=3 then D 3 k∨(w'.heap.size≤k∧k<w5.heap.size) else D j k,fun k=>by simp,fun j hj k=>by simp [hj]⟩
   have hold:∀ j,j ≠ 3→∀ k,D j k→D' j k:=fun j hj k hk=>(hDj j hj k).2 hk
   have hDD:∀ i j k,D' i k→D' j k→i=j:=growD QD QL hDi hDj
   have hLL:∀ i k,D' i k→k<w5.heap.size:=growL QL hDi hDj hg5.size
   have hap:∀ j,j ≠ 3→∀ k,D j k→some k ≠ (u3:Value).ownBlock:=fun j hj k hk e_=>hj (QD j 3 k hk (hU0 k e_.symm))
   have hnew:=R_raise (b':=w.heap.size) (ok':=D' 3) ho (fun k hk=>⟨Kd.R_base ho k hk,(hDi k).2 (by rcases ho.1 k hk with h_|h_;exact .inl h_;exact .inr ⟨h_,Kd.R_lt ho k hk⟩)⟩)
   refine hK.out _ _ ⟨u0,u1,u2,u3,u4,v0,v1,v2,x,v4,m,D',(by rw [ha];exact putSel_upk 15 hb_ rfl rfl rfl),hb5,blk_grown QA hg5 hne1,fun h_=>blk_grown (Qz h_) hg5 (hne2 h_),fun h0_=>absurd ((hoff 21 (by kernel_rfl)).symm.trans h0_) (by decide),fun h0_=>absurd ((hoff 20 (by kernel_rfl)).symm.trans h0_) (by decide),hDD,hLL,fun h_ h2_=>Kd.R_mono (Kd.R_grown (QU0 h_ h2_) hg5 (hap 0 (by decide))) (fun k hk=>hold 0 (by decide) k hk),fun h_ h2_=>Kd.R_mono (Kd.R_grown (QU1 h_ h2_) hg5 (hap 1 (by decide))) (fun k hk=>hold 1 (by decide) k hk),fun h_ h2_=>Kd.R_mono (Kd.R_grown (QU2 h_ h2_) hg5 (hap 2 (by decide))) (fun k hk=>hold 2 (by decide) k hk),fun h_ h2_=>absurd h2_ (by rw [up_self];decide),fun h_ h2_=>Kd.R_mono (Kd.R_grown (QU4 h_ h2_) hg5 (hap 4 (by decide))) (fun k hk=>hold 4 (by decide) k hk),fun h_=>Kd.R_mono (Kd.R_grown (QV0 h_) hg5 (hap 0 (by decide))) (fun k hk=>hold 0 (by decide) k hk),fun h_=>Kd.R_mono (Kd.R_grown (QV1 h_) hg5 (hap 1 (by decide))) (fun k hk=>hold 1 (by decide) k hk),fun h_=>Kd.R_mono (Kd.R_grown (QV2 h_) hg5 (hap 2 (by decide))) (fun k hk=>hold 2 (by decide) k hk),fun _=>hnew,fun h_=>Kd.R_mono (Kd.R_grown (QV4 h_) hg5 (hap 4 (by decide))) (fun k hk=>hold 4 (by decide) k hk)⟩
  refine steps_cons ?_ ?_
  ·rintro b a w' ⟨u0,u1,u2,u3,u4,v0,v1,v2,v3,v4,m,D,ha,HB,QA,Qz,Qe,Qm,QD,QL,QU0,QU1,QU2,QU3,QU4,QV0,QV1,QV2,QV3,QV4⟩ hb_ hon hoff
   refine ⟨_,rfl,fun K hK=>?_⟩
   refine Kd.R_lit_step (Kd.int .i64) (w0:=w') w'.heap.size 3 (by rfl) (N:=19) rfl (xs:=([]:List Int)) (inner:=[]) (ok:=fun k=>k=w'.heap.size∨w'.heap.size≤k) (okp:=fun _=>False) (by first|(go_simp;done)|(go_simp;rfl)) ⟨rfl,fun j p hj=>by simp at hj⟩ (fun _ hk=>hk.elim) (.inl rfl) (Below.refl _ _) (Nat.le_refl _) (by simp) ?_
   intro x w5 ho hb5 hg5 hn5
   have hfit:=HB.size
   obtain ⟨D',hDi,hDj⟩:∃ D':Nat→Nat→Prop,(∀ k,D' 4 k↔w'.heap.size≤k∧k<w5.heap.size)∧∀ j,j ≠ 4→∀ k,D' j k↔D j k:=⟨fun j k=>if j=4 then w'.heap.size≤k∧k<w5.heap.size else D j k,fun k=>by simp,fun j hj k=>by simp [hj]⟩
   have hold:∀ j,j ≠ 4→∀ k,D j k→D' j k:=fun j hj k hk=>(hDj j hj k).2 hk
   have hDD:∀ i j k,D' i k→D' j k→i=j:=newD QD QL hDi hDj
   have hLL:∀ i k,D' i k→k<w5.heap.size:=newL QL hDi hDj hb5.size
   have hnew:=R_raise (b':=w.heap.size) (ok':=D' 4) ho (fun k hk=>⟨by have:=Kd.R_base ho k hk;omega,(hDi k).2 ⟨Kd.R_base ho k hk,Kd.R_lt ho k hk⟩⟩)
   refine hK.out _ _ ⟨u0,u1,u2,u3,x,v0,v1,v2,v3,v4,m,D',(by rw [ha];exact putSel_upk 16 hb_ rfl rfl rfl),below_step HB hb5,Bk.below QA hb5,fun h_=>Bk.below (Qz h_) hb5,fun h0_=>absurd ((hoff 21 (by kernel_rfl)).symm.trans h0_) (by decide),fun h0_=>absurd ((hoff 20 (by kernel_rfl)).symm.trans h0_) (by decide),hDD,hLL,fun h_ h2_=>Kd.R_mono (Kd.R_below (QU0 h_ h2_) hb5) (fun k hk=>hold 0 (by decide) k hk),fun h_ h2_=>Kd.R_mono (Kd.R_below (QU1 h_ h2_) hb5) (fun k hk=>hold 1 (by decide) k hk),fun h_ h2_=>Kd.R_mono (Kd.R_below (QU2 h_ h2_) hb5) (fun k hk=>hold 2 (by decide) k hk),fun h_ h2_=>Kd.R_mono (Kd.R_below (QU3 h_ h2_) hb5) (fun k hk=>hold 3 (by decide) k hk),fun _ _=>hnew,fun h_=>Kd.R_mono (Kd.R_below (QV0 h_) hb5) (fun k hk=>hold 0 (by decide) k hk),fun h_=>Kd.R_mono (Kd.R_below (QV1 h_) hb5) (fun k hk=>hold 1 (by decide) k hk),fun h_=>Kd.R_mono (Kd.R_below (QV2 h_) hb5) (fun k hk=>hold 2 (by decide) k hk),fun h_=>Kd.R_mono (Kd.R_below (QV3 h_) hb5) (fun k hk=>hold 3 (by decide) k hk),fun h0_=>absurd ((hoff 19 (by kernel_rfl)).symm.trans h0_) (by decide)⟩
  refine steps_cons ?_ ?_
  ·rintro b a w' ⟨u0,u1,u2,u3,u4,v0,v1,v2,v3,v4,m,D,ha,HB,QA,Qz,Qe,Qm,QD,QL,QU0,QU1,QU2,QU3,QU4,QV0,QV1,QV2,QV3,QV4⟩ hb_ hon hoff
   refine ⟨_,rfl,fun K hK=>?_⟩
   have e1:a.tmps[1]?=some (.pointer (some ⟨g1,0,none⟩)):=by rw [ha];exact (putSel_off rfl).trans rfl
   replace ha:=Ak ha
   refine value_ (w1:=w') (v:=.pointer (some ⟨g1,4,none⟩)) (by rfl) rfl ?_ ?_
   ·go_simp
    try rfl
   refine hK.out _ _ ⟨u0,u1,u2,u3,u4,v0,v1,v2,v3,v4,m,D,(by rw [ha.out];exact putSel_upk 17 hb_ rfl rfl rfl),HB,QA,Qz,fun h0_=>absurd ((hoff 21 (by kernel_rfl)).symm.trans h0_) (by decide),fun h0_=>absurd ((hoff 20 (by kernel_rfl)).symm.trans h0_) (by decide),QD,QL,QU0,QU1,QU2,QU3,QU4,QV0,QV1,QV2,QV3,fun h0_=>absurd ((hoff 19 (by kernel_rfl)).symm.trans h0_) (by decide)⟩
  refine steps_cons ?_ ?_
  ·rintro b a w' ⟨u0,u1,u2,u3,u4,v0,v1,v2,v3,v4,m,D,ha,HB,QA,Qz,Qe,Qm,QD,QL,QU0,QU1,QU2,QU3,QU4,QV0,QV1,QV2,QV3,QV4⟩ hb_ hon hoff
   refine ⟨_,rfl,fun K hK=>?_⟩
   have e4:a.tmps[20]?=some (.pointer (some ⟨g1,4,none⟩)):=by rw [ha];exact putSel_on (e:=(17,20,.pointer (some ⟨g1,4,none⟩))) 17 rfl rfl (hon 17 (by kernel_rfl)) rfl
   have hc:w'.cell? ⟨g1,4,none⟩=some (.slice A0_4 l0_4.length c0_4):=(Bk.cell QA 4).trans rfl
   have HX:=Ak QA
   replace ha:=Ak ha
   refine value_ (w1:=w') (v:=.slice A0_4 l0_4.length c0_4) (by rfl) rfl ?_ ?_
   ·go_simp
    try rfl
   refine hK.out _ _ ⟨u0,u1,u2,u3,u4,v0,v1,v2,v3,v4,m,D,(by rw [ha.out];exact putSel_upk 18 hb_ rfl rfl rfl),HB,HX.out,Qz,fun h0_=>absurd ((hoff 21 (by kernel_rfl)).symm.trans h0_) (by decide),fun h0_=>absurd ((hoff 20 (by kernel_rfl)).symm.trans h0_) (by decide),QD,QL,QU0,QU1,QU2,QU3,QU4,QV0,QV1,QV2,QV3,fun h0_=>absurd ((hoff 19 (by kernel_rfl)).symm.trans h0_) (by decide)⟩
  refine steps_cons ?_ ?_
  ·rintro b a w' ⟨u0,u1,u2,u3,u4,v0,v1,v2,v3,v4,m,D,ha,HB,QA,Qz,Qe,Qm,QD,QL,QU0,QU1,QU2,QU3,QU4,QV0,QV1,QV2,QV3,QV4⟩ hb_ hon hoff
   refine ⟨_,rfl,fun K hK=>?_⟩
   have e3:a.tmps[19]?=some u4:=by rw [ha];exact putSel_on (e:=(16,19,u4)) 16 rfl rfl (hon 16 (by kernel_rfl)) rfl
   have e5:a.tmps[21]?=some (.slice A0_4 l0_4.length c0_4):=by rw [ha];exact putSel_on (e:=(18,21,.slice A0_4 l0_4.length c0_4)) 18 rfl rfl (hon 18 (by kernel_rfl)) rfl
   have hU:=QU4 (hon 16 (by kernel_rfl)) hb_
   refine Kd.R_append_rows_step (Kd.int .i64) (w0:=w) w.heap.size (by rfl) (.tmp 19) (.tmp 21) 24 3 (.int .i64 0) 8 rfl Try.underlying24 info3 rfl (by decide) (by omega) u4 ([]:List Int) l0_4 A0_4 l0_4.length c0_4 (fun k=>D 4 k∨w'.heap.size≤k) (fun _=>False) (eval_of e3) (eval_of e5) (Kd.R_mono hU (fun _ h_=>.inl h_)) (Kd.C_below HR4.out HB) (fun _ _ h_=>h_) (fun _ h_=>h_.elim) (fun _ h_=>.inr h_) HB HB.size (by have:=HL4.out;simp;omega) ?_
   intro x w5 ho hb5 hg5 hn5
   rw [List.nil_append] at ho
   have hne1:some g1 ≠ (u4:Value).ownBlock:=Kd.R_ne hU QA (by decide)
   have hne2:=fun h_=>(Kd.R_ne hU (Qz h_) (by decide):some g2 ≠ (u4:Value).ownBlock)
   have hU0:=hU.1
   obtain ⟨D',hDi,hDj⟩:∃ D':Nat→Nat→Prop,(∀ k,D' 4 k↔D 4 k∨(w'.heap.size≤k∧k<w5.heap.size))∧∀ j,j ≠ 4→∀ k,D' j k↔D j k:=⟨fun j k=>if j=4 then D 4 k∨(w'.heap.size≤k∧k<w5.heap.size) else D j k,fun k=>by simp,fun j hj k=>by simp [hj]⟩
   have hold:∀ j,j ≠ 4→∀ k,D j k→D' j k:=fun j hj k hk=>(hDj j hj k).2 hk
   have hDD:∀ i j k,D' i k→D' j k→i=j:=growD QD QL hDi hDj
   have hLL:∀ i k,D' i k→k<w5.heap.size:=growL QL hDi hDj hg5.size
   have hap:∀ j,j ≠ 4→∀ k,D j k→some k ≠ (u4:Value).ownBlock:=fun j hj k hk e_=>hj (QD j 4 k hk (hU0 k e_.symm))
   have hnew:=R_raise (b':=w.heap.size) (ok':=D' 4) ho (fun k hk=>⟨Kd.R_base ho k hk,(hDi k).2 (by rcases ho.1 k hk with h_|h_;exact .inl h_;exact .inr ⟨h_,Kd.R_lt ho k hk⟩)⟩)
   refine hK.out _ _ ⟨u0,u1,u2,u3,u4,v0,v1,v2,v3,x,m,D',(by rw [ha];exact putSel_upk 19 hb_ rfl rfl rfl),hb5,blk_grown QA hg5 hne1,fun h_=>blk_grown (Qz h_) hg5 (hne2 h_),fun h0_=>absurd ((hoff 21 (by kernel_rfl)).symm.trans h0_) (by decide),fun h0_=>absurd ((hoff 20 (by kernel_rfl)).symm.trans h0_) (by decide),hDD,hLL,fun h_ h2_=>Kd.R_mono (Kd.R_grown (QU0 h_ h2_) hg5 (hap 0 (by decide))) (fun k hk=>hold 0 (by decide) k hk),fun h_ h2_=>Kd.R_mono (Kd.R_grown (QU1 h_ h2_) hg5 (hap 1 (by decide))) (fun k hk=>hold 1 (by decide) k hk),fun h_ h2_=>Kd.R_mono (Kd.R_grown (QU2 h_ h2_) hg5 (hap 2 (by decide))) (fun k hk=>hold 2 (by decide) k hk),fun h_ h2_=>Kd.R_mono (Kd.R_grown (QU3 h_ h2_) hg5 (hap 3 (by decide))) (fun k hk=>hold 3 (by decide) k hk),fun h_ h2_=>absurd h2_ (by rw [up_self];decide),fun h_=>Kd.R_mono (Kd.R_grown (QV0 h_) hg5 (hap 0 (by decide))) (fun k hk=>hold 0 (by decide) k hk),fun h_=>Kd.R_mono (Kd.R_grown (QV1 h_) hg5 (hap 1 (by decide))) (fun k hk=>hold 1 (by decide) k hk),fun h_=>Kd.R_mono (Kd.R_grown (QV2 h_) hg5 (hap 2 (by decide))) (fun k hk=>hold 2 (by decide) k hk),fun h_=>Kd.R_mono (Kd.R_grown (QV3 h_) hg5 (hap 3 (by decide))) (fun k hk=>hold 3 (by decide) k hk),fun _=>hnew⟩
  refine steps_cons ?_ ?_
  ·rintro b a w' ⟨u0,u1,u2,u3,u4,v0,v1,v2,v3,v4,m,D,ha,HB,QA,Qz,Qe,Qm,QD,QL,QU0,QU1,QU2,QU3,QU4,QV0,QV1,QV2,QV3,QV4⟩ hb_ hon hoff
   refine ⟨_,rfl,fun K hK=>?_⟩
   have e0:a.tmps[6]?=some v0:=by rw [ha];exact putSel_on (e:=(3,6,v0)) 3 rfl rfl (hon 3 (by kernel_rfl)) rfl
   have e1:a.tmps[10]?=some v1:=by rw [ha];exact putSel_on (e:=(7,10,v1)) 7 rfl rfl (hon 7 (by kernel_rfl)) rfl
   have e2:a.tmps[14]?=some v2:=by rw [ha];exact putSel_on (e:=(11,14,v2)) 11 rfl rfl (hon 11 (by kernel_rfl)) rfl
   have e3:a.tmps[18]?=some v3:=by rw [ha];exact putSel_on (e:=(15,18,v3)) 15 rfl rfl (hon 15 (by kernel_rfl)) rfl
   have e4:a.tmps[22]?=some v4:=by rw [ha];exact putSel_on (e:=(19,22,v4)) 19 rfl rfl (hon 19 (by kernel_rfl)) rfl
   replace ha:=Ak ha
   obtain ⟨A0,c0,eo_⟩:=Kd.R_slice (QV0 (hon 3 (by kernel_rfl)))
   subst eo_
   obtain ⟨A1,c1,eo_⟩:=Kd.R_slice (QV1 (hon 7 (by kernel_rfl)))
   subst eo_
   obtain ⟨A2,c2,eo_⟩:=Kd.R_slice (QV2 (hon 11 (by kernel_rfl)))
   subst eo_
   obtain ⟨A3,c3,eo_⟩:=Kd.R_slice (QV3 (hon 15 (by kernel_rfl)))
   subst eo_
   obtain ⟨A4,c4,eo_⟩:=Kd.R_slice (QV4 (hon 19 (by kernel_rfl)))
   subst eo_
   refine value_ (w1:=w') (v:=.agg #[.slice A0 l0_0.length c0,.slice A1 l0_1.length c1,.slice A2 l0_2.length c2,.slice A3 l0_3.length c3,.slice A4 l0_4.length c4]) (by rfl) rfl ?_ ?_
   ·go_simp
    try rfl
   refine hK.out _ _ ⟨u0,u1,u2,u3,u4,.slice A0 l0_0.length c0,.slice A1 l0_1.length c1,.slice A2 l0_2.length c2,.slice A3 l0_3.length c3,.slice A4 l0_4.length c4,(.agg #[.slice A0 l0_0.length c0,.slice A1 l0_1.length c1,.slice A2 l0_2.length c2,.slice A3 l0_3.length c3,.slice A4 l0_4.length c4]),D,(by rw [ha.out];exact putSel_upk 20 hb_ rfl rfl rfl),HB,QA,Qz,fun h0_=>absurd ((hoff 21 (by kernel_rfl)).symm.trans h0_) (by decide),fun _=>rfl,QD,QL,QU0,QU1,QU2,QU3,QU4,QV0,QV1,QV2,QV3,QV4⟩
  refine steps_cons ?_ ?_
  ·rintro b a w' ⟨u0,u1,u2,u3,u4,v0,v1,v2,v3,v4,m,D,ha,HB,QA,Qz,Qe,Qm,QD,QL,QU0,QU1,QU2,QU3,QU4,QV0,QV1,QV2,QV3,QV4⟩ hb_ hon hoff
   refine ⟨_,rfl,fun K hK=>?_⟩
   have e0:a.tmps[2]?=some (.pointer (some ⟨g2,0,none⟩)):=by rw [ha];exact (putSel_off rfl).trans rfl
   have e6:a.tmps[23]?=some m:=by rw [ha];exact putSel_on (e:=(20,23,m)) 20 rfl rfl (hon 20 (by kernel_rfl)) rfl
   rw [Qm (hon 20 (by kernel_rfl))] at e6
   have hone0:(v0:Value).oneCell'=true:=by obtain ⟨A_,c_,e_⟩:=Kd.R_slice (QV0 (hon 3 (by kernel_rfl)));rw [e_];rfl
   have hone1:(v1:Value).oneCell'=true:=by obtain ⟨A_,c_,e_⟩:=Kd.R_slice (QV1 (hon 7 (by kernel_rfl)));rw [e_];rfl
   have hone2:(v2:Value).oneCell'=true:=by obtain ⟨A_,c_,e_⟩:=Kd.R_slice (QV2 (hon 11 (by kernel_rfl)));rw [e_];rfl
   have hone3:(v3:Value).oneCell'=true:=by obtain ⟨A_,c_,e_⟩:=Kd.R_slice (QV3 (hon 15 (by kernel_rfl)));rw [e_];rfl
   have hone4:(v4:Value).oneCell'=true:=by obtain ⟨A_,c_,e_⟩:=Kd.R_slice (QV4 (hon 19 (by kernel_rfl)));rw [e_];rfl
   have hty0:=(Kd.R_ne (QV0 (hon 3 (by kernel_rfl))) (Qz hb_) (by decide):some g2 ≠ (v0:Value).ownBlock)
   have hty1:=(Kd.R_ne (QV1 (hon 7 (by kernel_rfl))) (Qz hb_) (by decide):some g2 ≠ (v1:Value).ownBlock)
   have hty2:=(Kd.R_ne (QV2 (hon 11 (by kernel_rfl))) (Qz hb_) (by decide):some g2 ≠ (v2:Value).ownBlock)
   have hty3:=(Kd.R_ne (QV3 (hon 15 (by kernel_rfl))) (Qz hb_) (by decide):some g2 ≠ (v3:Value).ownBlock)
   have hty4:=(Kd.R_ne (QV4 (hon 19 (by kernel_rfl))) (Qz hb_) (by decide):some g2 ≠ (v4:Value).ownBlock)
   refine wp_storeRow_step (by rfl) rfl rfl (eval_of e0) (eval_of e6) (Qz hb_) (by kernel_rfl) rfl (by simp [hone0,hone1,hone2,hone3,hone4]) ?_
   intro w5 hk5 hg5
   refine hK.out _ _ ⟨u0,u1,u2,u3,u4,v0,v1,v2,v3,v4,m,D,(by rw [ha];exact putSel_none (v:=undef) rfl),below_row HB hg5 HGE.out,blk_row QA hg5 (by intro e_;have:=HG12.out;omega),fun h_=>absurd h_ (by rw [up_self];decide),fun _=>hk5,Qm,QD,fun i k hk=>by have:=QL i k hk;have:=hg5.2;omega,fun h_ h2_=>absurd (hon 3 (by kernel_rfl)) (by rw [show b 3=false from h2_];decide),fun h_ h2_=>absurd (hon 7 (by kernel_rfl)) (by rw [show b 7=false from h2_];decide),fun h_ h2_=>absurd (hon 11 (by kernel_rfl)) (by rw [show b 11=false from h2_];decide),fun h_ h2_=>absurd (hon 15 (by kernel_rfl)) (by rw [show b 15=false from h2_];decide),fun h_ h2_=>absurd (hon 19 (by kernel_rfl)) (by rw [show b 19=false from h2_];decide),fun h_=>R_row (fun h=>h) (QV0 h_) hg5 hty0,fun h_=>R_row (fun h=>h) (QV1 h_) hg5 hty1,fun h_=>R_row (fun h=>h) (QV2 h_) hg5 hty2,fun h_=>R_row (fun h=>h) (QV3 h_) hg5 hty3,fun h_=>R_row (fun h=>h) (QV4 h_) hg5 hty4⟩
  exact steps_nil
 rintro b a w25 hall ⟨u0,u1,u2,u3,u4,v0,v1,v2,v3,v4,m,D,ha,HB,QA,Qz,Qe,Qm,QD,QL,QU0,QU1,QU2,QU3,QU4,QV0,QV1,QV2,QV3,QV4⟩
 have hb0_:=hall 0 (by kernel_rfl)
 have hb1_:=hall 1 (by kernel_rfl)
 have hb2_:=hall 2 (by kernel_rfl)
 have hb3_:=hall 3 (by kernel_rfl)
 have hb4_:=hall 4 (by kernel_rfl)
 have hb5_:=hall 5 (by kernel_rfl)
 have hb6_:=hall 6 (by kernel_rfl)
 have hb7_:=hall 7 (by kernel_rfl)
 have hb8_:=hall 8 (by kernel_rfl)
 have hb9_:=hall 9 (by kernel_rfl)
 have hb10_:=hall 10 (by kernel_rfl)
 have hb11_:=hall 11 (by kernel_rfl)
 have hb12_:=hall 12 (by kernel_rfl)
 have hb13_:=hall 13 (by kernel_rfl)
 have hb14_:=hall 14 (by kernel_rfl)
 have hb15_:=hall 15 (by kernel_rfl)
 have hb16_:=hall 16 (by kernel_rfl)
 have hb17_:=hall 17 (by kernel_rfl)
 have hb18_:=hall 18 (by kernel_rfl)
 have hb19_:=hall 19 (by kernel_rfl)
 have hb20_:=hall 20 (by kernel_rfl)
 have hb21_:=hall 21 (by kernel_rfl)
 subst ha
 obtain rfl:=Qm hb20_
 simp only [putSel,hb0_,hb1_,hb2_,hb3_,hb4_,hb5_,hb6_,hb7_,hb8_,hb9_,hb10_,hb11_,hb12_,hb13_,hb14_,hb15_,hb16_,hb17_,hb18_,hb19_,hb20_,hb21_,if_true,Act.put,zzA,zzB,zzC]
 have HV0:=Ak (QV0 hb3_)
 have HV1:=Ak (QV1 hb7_)
 have HV2:=Ak (QV2 hb11_)
 have HV3:=Ak (QV3 hb15_)
 have HV4:=Ak (QV4 hb19_)
 have BKf:=Ak (Qe hb21_)
 have HBf:=Ak HB
 have HDf:=Ak QD
 clear QA QU0 QU1 QU2 QU3 QU4 Qz Qe Qm QD QL HB QV0 QV1 QV2 QV3 QV4 hall hb0_ hb1_ hb2_ hb3_ hb4_ hb5_ hb6_ hb7_ hb8_ hb9_ hb10_ hb11_ hb12_ hb13_ hb14_ hb15_ hb16_ hb17_ hb18_ hb19_ hb20_ hb21_
 try go_wp2
 refine bodyPost_ret (results_cell_row rfl _ _ g2 26 #[v0,v1,v2,v3,v4] (0,0) _ rfl BKf.out Try.underlying26 rfl (by kernel_rfl)) rfl ?_
 have o0:=HV0.out.1
 have o1:=HV1.out.1
 have o2:=HV2.out.1
 have o3:=HV3.out.1
 have o4:=HV4.out.1
 exact ⟨v0,v1,v2,v3,v4,rfl,R_raise HV0.out (fun k hk=>⟨Kd.R_base HV0.out k hk,(fun e_=>absurd (HDf.out 0 1 k (o0 k hk) (o1 k e_.symm)) (by decide))⟩),R_raise HV1.out (fun k hk=>⟨Kd.R_base HV1.out k hk,(fun e_=>absurd (HDf.out 1 0 k (o1 k hk) (o0 k e_.symm)) (by decide))⟩),R_raise HV2.out (fun k hk=>⟨Kd.R_base HV2.out k hk,⟨(fun e_=>absurd (HDf.out 2 3 k (o2 k hk) (o3 k e_.symm)) (by decide)),(fun e_=>absurd (HDf.out 2 4 k (o2 k hk) (o4 k e_.symm)) (by decide))⟩⟩),R_raise HV3.out (fun k hk=>⟨Kd.R_base HV3.out k hk,⟨(fun e_=>absurd (HDf.out 3 2 k (o3 k hk) (o2 k e_.symm)) (by decide)),(fun e_=>absurd (HDf.out 3 4 k (o3 k hk) (o4 k e_.symm)) (by decide))⟩⟩),R_raise HV4.out (fun k hk=>⟨Kd.R_base HV4.out k hk,⟨(fun e_=>absurd (HDf.out 4 2 k (o4 k hk) (o2 k e_.symm)) (by decide)),(fun e_=>absurd (HDf.out 4 3 k (o4 k hk) (o3 k e_.symm)) (by decide))⟩⟩),HBf.out⟩
def slices_Clone_int_int.f (l0:List Int):Option (List Int):=if l0.length<17592186044416 then some l0 else none
set_option maxHeartbeats 1000000 in
theorem slices_Clone_int_int.calls (A0:Option Addr) (c0:Nat) (l0:List Int) (r:List Int) (w:World) (hr0:Kd.C (Kd.int .i64) w A0 l0.length l0) (hc0:l0.length≤c0) (h:slices_Clone_int_int.f l0=some r) :
  Calls Try.prog 54 #[.slice A0 l0.length c0] w fun e w'=>∃ v0_:Value,e = .returned (v0_)∧Kd.R (Kd.int .i64) 3 w' w.heap.size (fun _=>True) v0_ r∧Below w.heap.size w w':=by
 unfold slices_Clone_int_int.f at h
 by_cases hl:l0.length<17592186044416
 ·rw [if_pos hl] at h
  obtain rfl:=Option.some.inj h
  clear h
  have hu:=Try.underlying24
  have heq:=fun (W:World) (A:Option Addr) (n c:Nat)=>Lib.run_eql_slice_nil (P:=Try.prog) W 24 3 A n c 0 0 hu
  have HR:=Ak hr0
  have HL:=Ak hl
  clear hl
  cases A0 with
  | none =>
   have hl0:l0 = []:=by
    rcases Nat.eq_zero_or_pos l0.length with h0|h0
    ·exact List.eq_nil_of_length_eq_zero h0
    ·obtain ⟨ad,h,_⟩:=hr0.2.2 h0
     cases h
   subst hl0
   clear hr0
   go_enter Try.func54,Try.ntmps54
   go_wp2
   go_ret
   exact ⟨_,rfl,Kd.R_nil _ _ _ _ _,Below.refl _ _⟩
  | some a0 =>
   clear hr0
   go_enter Try.func54,Try.ntmps54
   go_wp2_with (first|((with_reducible refine gate_dst (N:=5) rfl ?_);refine Kd.R_lit (Kd.int .i64) w.heap.size 3 ?hg (N:=5) ?hd (xs:=([]:List Int)) (inner:=[]) (ok:=fun _=>True) (okp:=fun _=>True) (w0:=w) ?hr ?hp (fun _ _=>trivial) trivial (Below.refl _ _) (Nat.le_refl _) (by simp) ?_;(case hd=>rfl);(case hg=>rfl);(case hr=>first|(go_simp;done)|(go_simp;rfl));(case hp=>exact ⟨rfl,fun j p hj=>by simp at hj⟩);intro v1 w1 ho1 hb1 hg1 hat1;have HO1:=Ak ho1;have HB1:=Ak hb1;obtain ⟨Ax,cx,rfl⟩:=Kd.R_slice ho1;clear ho1 hb1 hg1 hat1)|((with_reducible refine gate_dst (N:=7) rfl ?_);refine Kd.R_append_row (Value.int .i64) (0:Int) (w0:=w) w.heap.size ?hg _ _ 24 3 _ _ rfl hu info3 rfl (by decide) _ ([]:List Int) l0 (some a0) l0.length c0 (fun _=>True) rfl rfl (fun _ _=>trivial) HO1.out (Kd.C_below HR.out HB1.out) HB1.out HB1.out.size (by have:=HL.out;simp;omega) ?_;(case hg=>rfl);intro v2 w2 ho2 hb2 _ _;have HO2:=Ak ho2;have HB2:=Ak hb2;clear ho2 hb2))
   go_ret
   exact ⟨_,rfl,HO2.out,HB2.out⟩
 ·rw [if_neg hl] at h
  cases h
def slices_Clone_string_string.f (l0:List ByteArray):Option (List ByteArray):=if l0.length<8796093022208 then some l0 else none
set_option maxHeartbeats 1000000 in
theorem slices_Clone_string_string.calls (A0:Option Addr) (c0:Nat) (l0:List ByteArray) (r:List ByteArray) (w:World) (hr0:Kd.C Kd.string w A0 l0.length l0) (hc0:l0.length≤c0) (h:slices_Clone_string_string.f l0=some r) :
  Calls Try.prog 53 #[.slice A0 l0.length c0] w fun e w'=>∃ v0_:Value,e = .returned (v0_)∧Kd.R Kd.string 9 w' w.heap.size (fun _=>True) v0_ r∧Below w.heap.size w w':=by
 unfold slices_Clone_string_string.f at h
 by_cases hl:l0.length<8796093022208
 ·rw [if_pos hl] at h
  obtain rfl:=Option.some.inj h
  clear h
  have hu:=Try.underlying23
  have heq:=fun (W:World) (A:Option Addr) (n c:Nat)=>Lib.run_eql_slice_nil (P:=Try.prog) W 23 9 A n c 0 0 hu
  have HR:=Ak hr0
  have HL:=Ak hl
  clear hl
  cases A0 with
  | none =>
   have hl0:l0 = []:=by
    rcases Nat.eq_zero_or_pos l0.length with h0|h0
    ·exact List.eq_nil_of_length_eq_zero h0
    ·obtain ⟨ad,h,_⟩:=hr0.2.2 h0
     cases h
   subst hl0
   clear hr0
   go_enter Try.func53,Try.ntmps53
   go_wp2
   go_ret
   exact ⟨_,rfl,Kd.R_nil _ _ _ _ _,Below.refl _ _⟩
  | some a0 =>
   clear hr0
   go_enter Try.func53,Try.ntmps53
   go_wp2_with (first|((with_reducible refine gate_dst (N:=5) rfl ?_);refine Kd.R_lit Kd.string w.heap.size 9 ?hg (N:=5) ?hd (xs:=([]:List ByteArray)) (inner:=[]) (ok:=fun _=>True) (okp:=fun _=>True) (w0:=w) ?hr ?hp (fun _ _=>trivial) trivial (Below.refl _ _) (Nat.le_refl _) (by simp) ?_;(case hd=>rfl);(case hg=>rfl);(case hr=>first|(go_simp;done)|(go_simp;rfl));(case hp=>exact ⟨rfl,fun j p hj=>by simp at hj⟩);intro v1 w1 ho1 hb1 hg1 hat1;have HO1:=Ak ho1;have HB1:=Ak hb1;obtain ⟨Ax,cx,rfl⟩:=Kd.R_slice ho1;clear ho1 hb1 hg1 hat1)|((with_reducible refine gate_dst (N:=7) rfl ?_);refine Kd.R_append_row Value.string ByteArray.empty (w0:=w) w.heap.size ?hg _ _ 23 9 _ _ rfl hu info9 rfl (by decide) _ ([]:List ByteArray) l0 (some a0) l0.length c0 (fun _=>True) rfl rfl (fun _ _=>trivial) HO1.out (Kd.C_below HR.out HB1.out) HB1.out HB1.out.size (by have:=HL.out;simp;omega) ?_;(case hg=>rfl);intro v2 w2 ho2 hb2 _ _;have HO2:=Ak ho2;have HB2:=Ak hb2;clear ho2 hb2))
   go_ret
   exact ⟨_,rfl,HO2.out,HB2.out⟩
 ·rw [if_neg hl] at h
  cases h
end Go.Proofs.Ytmekkapacbdbeaa.P
namespace Go.Proofs.Ytmekkapacbdbeaa.P
open Go.RowKit Go.Proofs.YtmekkapacbdbeaaW.PrintWords Go.Proofs.YtmekkapacbdbeaaW.PrintLast Go.Proofs.YtmekkapacbdbeaaW.PrintMore
attribute [local go_sem] max2_int min2_int max_two min_two max_three min_three max_four min_four 
def impl_again.f (l0_0:List ByteArray) (l0_1:List ByteArray) (l0_2:List Int) (l0_3:List Int) (l0_4:List Int):Option (List ByteArray × List ByteArray × List Int × List Int × List Int):=(slices_Clone_string_string.f l0_0).bind fun t612=>((slices_Clone_string_string.f l0_1).bind fun t615=>((slices_Clone_int_int.f l0_2).bind fun t618=>((slices_Clone_int_int.f l0_3).bind fun t621=>((slices_Clone_int_int.f l0_4).bind fun t624=>(some (t612,t615,t618,t621,t624))))))
def impl_again.T1:Bool × List (List Nat × List Nat):=(true,[([],[]),([0],[0]),([1],[1]),([],[]),([3],[3]),([4,2],[4]),([],[]),([6],[6]),([7,5],[7]),([],[]),([9],[9]),([10,8],[10]),([],[]),([12],[12]),([13,11],[13]),([2,5,8,11,14],[2,5,8,11,14]),([15,14,0,1,2,3,4,5,6,7,8,9,10,11,12,13,14,15],[15])])
def impl_again.B1:List Nat:=[0,1,3,0,8,31,0,64,255,0,512,2047,0,4096,16383,32767,65535]
theorem impl_again.tab1:rtab .any (opsOf Try.f49 1)=impl_again.T1:=by kernel_rfl
theorem impl_again.bits1:waitsOk impl_again.T1.2 impl_again.B1=true:=by kernel_rfl
theorem impl_again.calls (A0_0:Option Addr) (c0_0:Nat) (l0_0:List ByteArray) (A0_1:Option Addr) (c0_1:Nat) (l0_1:List ByteArray) (A0_2:Option Addr) (c0_2:Nat) (l0_2:List Int) (A0_3:Option Addr) (c0_3:Nat) (l0_3:List Int) (A0_4:Option Addr) (c0_4:Nat) (l0_4:List Int) (r1:List ByteArray) (r2:List ByteArray) (r3:List Int) (r4:List Int) (r5:List Int) (w:World) (hr0_0:Kd.C Kd.string w A0_0 l0_0.length l0_0) (hc0_0:l0_0.length≤c0_0) (hr0_1:Kd.C Kd.string w A0_1 l0_1.length l0_1) (hc0_1:l0_1.length≤c0_1) (hr0_2:Kd.C (Kd.int .i64) w A0_2 l0_2.length l0_2) (hc0_2:l0_2.length≤c0_2) (hr0_3:Kd.C (Kd.int .i64) w A0_3 l0_3.length l0_3) (hc0_3:l0_3.length≤c0_3) (hr0_4:Kd.C (Kd.int .i64) w A0_4 l0_4.length l0_4) (hc0_4:l0_4.length≤c0_4) (h:impl_again.f l0_0 l0_1 l0_2 l0_3 l0_4=some (r1,r2,r3,r4,r5)) :
  Calls Try.prog 49 #[.agg #[.slice A0_0 l0_0.length c0_0,.slice A0_1 l0_1.length c0_1,.slice A0_2 l0_2.length c0_2,.slice A0_3 l0_3.length c0_3,.slice A0_4 l0_4.length c0_4]] w fun e w'=>∃ v0_ v1_ v2_ v3_ v4_:Value,e = .returned (.agg #[v0_,v1_,v2_,v3_,v4_])∧Kd.R Kd.string 9 w' w.heap.size (fun k_=>some k_ ≠ (v1_:Value).ownBlock) v0_ r1∧Kd.R Kd.string 9 w' w.heap.size (fun k_=>some k_ ≠ (v0_:Value).ownBlock) v1_ r2∧Kd.R (Kd.int .i64) 3 w' w.heap.size (fun k_=>some k_ ≠ (v3_:Value).ownBlock∧some k_ ≠ (v4_:Value).ownBlock) v2_ r3∧Kd.R (Kd.int .i64) 3 w' w.heap.size (fun k_=>some k_ ≠ (v2_:Value).ownBlock∧some k_ ≠ (v4_:Value).ownBlock) v3_ r4∧Kd.R (Kd.int .i64) 3 w' w.heap.size (fun k_=>some k_ ≠ (v2_:Value).ownBlock∧some k_ ≠ (v3_:Value).ownBlock) v4_ r5∧Below w.heap.size w w':=by
 have hu26:=Try.underlying26
 have HR0_0:=Ak hr0_0
 have HC0_0:=Ak hc0_0
 clear hr0_0 hc0_0
 have HR0_1:=Ak hr0_1
 have HC0_1:=Ak hc0_1
 clear hr0_1 hc0_1
 have HR0_2:=Ak hr0_2
 have HC0_2:=Ak hc0_2
 clear hr0_2 hc0_2
 have HR0_3:=Ak hr0_3
 have HC0_3:=Ak hc0_3
 clear hr0_3 hc0_3
 have HR0_4:=Ak hr0_4
 have HC0_4:=Ak hc0_4
 clear hr0_4 hc0_4
 have HB:=Ak (Below.refl w.heap.size w)
 have H:((slices_Clone_string_string.f l0_0).bind fun t612=>((slices_Clone_string_string.f l0_1).bind fun t615=>((slices_Clone_int_int.f l0_2).bind fun t618=>((slices_Clone_int_int.f l0_3).bind fun t621=>((slices_Clone_int_int.f l0_4).bind fun t624=>(some (t612,t615,t618,t621,t624)))))))=some (r1,r2,r3,r4,r5):=h
 clear h
 replace H:=Option.bind_eq_some_iff.mp H
 obtain ⟨t612,A20,H⟩:=H
 replace H:((slices_Clone_string_string.f l0_1).bind fun t615=>((slices_Clone_int_int.f l0_2).bind fun t618=>((slices_Clone_int_int.f l0_3).bind fun t621=>((slices_Clone_int_int.f l0_4).bind fun t624=>(some (t612,t615,t618,t621,t624))))))=some (r1,r2,r3,r4,r5):=H
 have A2:=Ak A20
 clear A20
 replace H:=Option.bind_eq_some_iff.mp H
 obtain ⟨t615,A30,H⟩:=H
 replace H:((slices_Clone_int_int.f l0_2).bind fun t618=>((slices_Clone_int_int.f l0_3).bind fun t621=>((slices_Clone_int_int.f l0_4).bind fun t624=>(some (t612,t615,t618,t621,t624)))))=some (r1,r2,r3,r4,r5):=H
 have A3:=Ak A30
 clear A30
 replace H:=Option.bind_eq_some_iff.mp H
 obtain ⟨t618,A40,H⟩:=H
 replace H:((slices_Clone_int_int.f l0_3).bind fun t621=>((slices_Clone_int_int.f l0_4).bind fun t624=>(some (t612,t615,t618,t621,t624))))=some (r1,r2,r3,r4,r5):=H
 have A4:=Ak A40
 clear A40
 replace H:=Option.bind_eq_some_iff.mp H
 obtain ⟨t621,A50,H⟩:=H
 replace H:((slices_Clone_int_int.f l0_4).bind fun t624=>(some (t612,t615,t618,t621,t624)))=some (r1,r2,r3,r4,r5):=H
 have A5:=Ak A50
 clear A50
 replace H:=Option.bind_eq_some_iff.mp H
 obtain ⟨t624,A60,H⟩:=H
 replace H:(some (t612,t615,t618,t621,t624))=some (r1,r2,r3,r4,r5):=H
 have A6:=Ak A60
 clear A60
 simp only [Option.some.injEq,Prod.mk.injEq] at H
 obtain ⟨rfl,rfl,rfl,rfl,rfl⟩:=H
 go_enter Try.func49,Try.ntmps49
 try go_wp2_with (first|((with_reducible refine gate_dst (N:=1) rfl ?_);refine box_event ?hg (N:=1) ?hd (cs:=#[.slice A0_0 l0_0.length c0_0,.slice A0_1 l0_1.length c0_1,.slice A0_2 l0_2.length c0_2,.slice A0_3 l0_3.length c0_3,.slice A0_4 l0_4.length c0_4]) (t:=26) ?hr ?_;(case hd=>rfl);(case hg=>rfl);(case hr=>first|(go_simp;done)|(go_simp;rfl));intro gb610 hg w7 hbox hb;have n0_:=Ak (below_step (by repeat (first|(with_reducible first|exact HB.out|apply below_alloc|apply pw_below_drewN|apply below_drew1)|exact HB.out)) hb);have n1_:=Ak (hbox);have n2_:=Ak ((by rw [hg];exact (below_size (by repeat (first|(with_reducible first|exact HB.out|apply below_alloc|apply pw_below_drewN|apply below_drew1)|exact HB.out))):w.heap.size≤gb610));have n3_:=Ak ((by rw [hg];exact (below_size (by repeat (first|(with_reducible first|exact HB.out|apply below_alloc|apply pw_below_drewN|apply below_drew1)|exact HB.out))):w.heap.size≤gb610));clear HB;have HB:=n0_;have BK610:=n1_;have GW610:=n2_;have GE610:=n3_;clear n0_ n1_ n2_ n3_;clear hb hbox hg)|((with_reducible refine gate_dst (N:=2) rfl ?_);refine box_event ?hg (N:=2) ?hd (cs:=#[.slice none 0 0,.slice none 0 0,.slice none 0 0,.slice none 0 0,.slice none 0 0]) (t:=26) ?hr ?_;(case hd=>rfl);(case hg=>rfl);(case hr=>first|(go_simp;done)|(go_simp;rfl));intro gb611 hg w8 hbox hb;have n0_:=Ak (blk_below (g:=gb610) (o:=.cells #[.slice A0_0 l0_0.length c0_0,.slice A0_1 l0_1.length c0_1,.slice A0_2 l0_2.length c0_2,.slice A0_3 l0_3.length c0_3,.slice A0_4 l0_4.length c0_4] 26 (0,0)) (by (with_reducible repeat (first|refine blk_drewN ?_ _|refine blk_drew ?_|refine blk_alloc ?_ _));exact BK610.out) hb);have n1_:=Ak (below_step (by repeat (first|(with_reducible first|exact HB.out|apply below_alloc|apply pw_below_drewN|apply below_drew1|refine below_set ?_ GE610.out)|exact HB.out)) hb);have n2_:=Ak (hbox);have n3_:=Ak ((by rw [hg];exact (below_size (by repeat (first|(with_reducible first|exact HB.out|apply below_alloc|apply pw_below_drewN|apply below_drew1|refine below_set ?_ GE610.out)|exact HB.out))):w.heap.size≤gb611));have n4_:=Ak ((by rw [hg];exact (below_size (by repeat (first|(with_reducible first|exact HB.out|apply below_alloc|apply pw_below_drewN|apply below_drew1|refine below_set ?_ GE610.out)|exact HB.out))):w.heap.size≤gb611));have n5_:=Ak ((by rw [hg];exact Nat.ne_of_lt (blk_lt (g:=gb610) (o:=.cells #[.slice A0_0 l0_0.length c0_0,.slice A0_1 l0_1.length c0_1,.slice A0_2 l0_2.length c0_2,.slice A0_3 l0_3.length c0_3,.slice A0_4 l0_4.length c0_4] 26 (0,0)) (by (with_reducible repeat (first|refine blk_drewN ?_ _|refine blk_drew ?_|refine blk_alloc ?_ _));exact BK610.out)):gb610 ≠ gb611));have n6_:=Ak ((by rw [hg];exact Nat.ne_of_gt (blk_lt (g:=gb610) (o:=.cells #[.slice A0_0 l0_0.length c0_0,.slice A0_1 l0_1.length c0_1,.slice A0_2 l0_2.length c0_2,.slice A0_3 l0_3.length c0_3,.slice A0_4 l0_4.length c0_4] 26 (0,0)) (by (with_reducible repeat (first|refine blk_drewN ?_ _|refine blk_drew ?_|refine blk_alloc ?_ _));exact BK610.out)):gb611 ≠ gb610));clear BK610;clear HB;have BK610:=n0_;have HB:=n1_;have BK611:=n2_;have GW611:=n3_;have GE611:=n4_;have NB610_611:=n5_;have NB611_610:=n6_;clear n0_ n1_ n2_ n3_ n4_ n5_ n6_;clear hb hbox hg))
 have n0_:=Ak (blk_drew BK610.out)
 have n1_:=Ak (blk_drew BK611.out)
 have n2_:=Ak (below_drew1 HB.out)
 clear BK610
 clear BK611
 clear HB
 have BK610:=n0_
 have BK611:=n1_
 have HB:=n2_
 clear n0_ n1_ n2_
 refine start_ (n:=17) (S:=fun w'=>w'.cell? ⟨gb610,0,none⟩=some (.slice A0_0 l0_0.length c0_0)∧w'.cell? ⟨gb610,1,none⟩=some (.slice A0_1 l0_1.length c0_1)∧w'.cell? ⟨gb610,2,none⟩=some (.slice A0_2 l0_2.length c0_2)∧w'.cell? ⟨gb610,3,none⟩=some (.slice A0_3 l0_3.length c0_3)∧w'.cell? ⟨gb610,4,none⟩=some (.slice A0_4 l0_4.length c0_4)) (ds:=[]) #[false,false,false,false,false,false,false,false,false,false,false,false,false,false,false,false,false] (by kernel_rfl) rfl rfl ⟨(blk_cell BK610.out 0).trans rfl,(blk_cell BK610.out 1).trans rfl,(blk_cell BK610.out 2).trans rfl,(blk_cell BK610.out 3).trans rfl,(blk_cell BK610.out 4).trans rfl⟩ (fun hHeld=>?_);refine with_tabW impl_again.tab1 impl_again.bits1 (fun HT_ HW_=>?_)
 generalize w8.drew=w9 at BK610 BK611 HB hHeld ⊢
 refine pure_ (i:=0) (N:=some 3) (v:=?_) (a':=?_) #[T0,F0,F0,F0,F0,F0,F0,F0,F0,F0,F0,F0,F0,F0,F0,F0,F0] rfl rfl (any_of HT_.out (by kernel_rfl)) (fun _ _ _ h=>h) (Or.inl ⟨by rfl,?_⟩) ?_ ?_
 rotate_left
 ·intro w'
  go_simp
  with_reducible rfl
 rotate_left
 ·simp only [Act.put,zzA,zzB,zzC,i64_w,i32_w]
  rfl
 refine pure_ (i:=3) (N:=some 6) (v:=?_) (a':=?_) #[T0,F0,F0,T0,F0,F0,F0,F0,F0,F0,F0,F0,F0,F0,F0,F0,F0] rfl rfl (any_of HT_.out (by kernel_rfl)) (fun _ _ _ h=>h) (Or.inl ⟨by rfl,?_⟩) ?_ ?_
 rotate_left
 ·intro w'
  go_simp
  with_reducible rfl
 rotate_left
 ·simp only [Act.put,zzA,zzB,zzC,i64_w,i32_w]
  rfl
 refine pure_ (i:=6) (N:=some 9) (v:=?_) (a':=?_) #[T0,F0,F0,T0,F0,F0,T0,F0,F0,F0,F0,F0,F0,F0,F0,F0,F0] rfl rfl (any_of HT_.out (by kernel_rfl)) (fun _ _ _ h=>h) (Or.inl ⟨by rfl,?_⟩) ?_ ?_
 rotate_left
 ·intro w'
  go_simp
  with_reducible rfl
 rotate_left
 ·simp only [Act.put,zzA,zzB,zzC,i64_w,i32_w]
  rfl
 refine pure_ (i:=9) (N:=some 12) (v:=?_) (a':=?_) #[T0,F0,F0,T0,F0,F0,T0,F0,F0,T0,F0,F0,F0,F0,F0,F0,F0] rfl rfl (any_of HT_.out (by kernel_rfl)) (fun _ _ _ h=>h) (Or.inl ⟨by rfl,?_⟩) ?_ ?_
 rotate_left
 ·intro w'
  go_simp
  with_reducible rfl
 rotate_left
 ·simp only [Act.put,zzA,zzB,zzC,i64_w,i32_w]
  rfl
 refine pure_ (i:=12) (N:=some 15) (v:=?_) (a':=?_) #[T0,F0,F0,T0,F0,F0,T0,F0,F0,T0,F0,F0,T0,F0,F0,F0,F0] rfl rfl (any_of HT_.out (by kernel_rfl)) (fun _ _ _ h=>h) (Or.inl ⟨by rfl,?_⟩) ?_ ?_
 rotate_left
 ·intro w'
  go_simp
  with_reducible rfl
 rotate_left
 ·simp only [Act.put,zzA,zzB,zzC,i64_w,i32_w]
  rfl
 refine take_ (i:=1) (N:=some 4) (v:=?_) (a':=?_) #[T0,T0,F0,T0,F0,F0,T0,F0,F0,T0,F0,F0,T0,F0,F0,F0,F0] rfl rfl (take_ofW HT_.out HW_.out (by kernel_rfl)) (fun _ _ _ h=>h) (Or.inl ⟨by rfl,?_⟩) hHeld ?_ ?_
 rotate_left
 ·rintro w' ⟨s0,s1,s2,s3,s4⟩
  go_simp
  with_reducible rfl
 rotate_left
 ·simp only [Act.put,zzA,zzB,zzC,i64_w,i32_w]
  rfl
 refine take_ (i:=4) (N:=some 7) (v:=?_) (a':=?_) #[T0,T0,F0,T0,T0,F0,T0,F0,F0,T0,F0,F0,T0,F0,F0,F0,F0] rfl rfl (take_ofW HT_.out HW_.out (by kernel_rfl)) (fun _ _ _ h=>h) (Or.inl ⟨by rfl,?_⟩) hHeld ?_ ?_
 rotate_left
 ·rintro w' ⟨s0,s1,s2,s3,s4⟩
  go_simp
  with_reducible rfl
 rotate_left
 ·simp only [Act.put,zzA,zzB,zzC,i64_w,i32_w]
  rfl
 refine take_ (i:=7) (N:=some 10) (v:=?_) (a':=?_) #[T0,T0,F0,T0,T0,F0,T0,T0,F0,T0,F0,F0,T0,F0,F0,F0,F0] rfl rfl (take_ofW HT_.out HW_.out (by kernel_rfl)) (fun _ _ _ h=>h) (Or.inl ⟨by rfl,?_⟩) hHeld ?_ ?_
 rotate_left
 ·rintro w' ⟨s0,s1,s2,s3,s4⟩
  go_simp
  with_reducible rfl
 rotate_left
 ·simp only [Act.put,zzA,zzB,zzC,i64_w,i32_w]
  rfl
 refine take_ (i:=10) (N:=some 13) (v:=?_) (a':=?_) #[T0,T0,F0,T0,T0,F0,T0,T0,F0,T0,T0,F0,T0,F0,F0,F0,F0] rfl rfl (take_ofW HT_.out HW_.out (by kernel_rfl)) (fun _ _ _ h=>h) (Or.inl ⟨by rfl,?_⟩) hHeld ?_ ?_
 rotate_left
 ·rintro w' ⟨s0,s1,s2,s3,s4⟩
  go_simp
  with_reducible rfl
 rotate_left
 ·simp only [Act.put,zzA,zzB,zzC,i64_w,i32_w]
  rfl
 refine take_ (i:=13) (N:=some 16) (v:=?_) (a':=?_) #[T0,T0,F0,T0,T0,F0,T0,T0,F0,T0,T0,F0,T0,T0,F0,F0,F0] rfl rfl (take_ofW HT_.out HW_.out (by kernel_rfl)) (fun _ _ _ h=>h) (Or.inl ⟨by rfl,?_⟩) hHeld ?_ ?_
 rotate_left
 ·rintro w' ⟨s0,s1,s2,s3,s4⟩
  go_simp
  with_reducible rfl
 rotate_left
 ·simp only [Act.put,zzA,zzB,zzC,i64_w,i32_w]
  rfl
 refine one_ (i:=2) (N:=some 5) #[T0,T0,T0,T0,T0,F0,T0,T0,F0,T0,T0,F0,T0,T0,F0,F0,F0] rfl rfl (one_of HT_.out (by kernel_rfl)) (by decide) (fun K hK=>?_)
 refine goes_ Try.func53 (by kernel_rfl) rfl #[.slice A0_0 l0_0.length c0_0] (by rfl) rfl rfl (by (try simp only [List.map_toArray,List.map_cons,List.map_nil]);first|done|rfl|(simp only [List.length_drop,List.length_take];rfl)) ?_
 with_reducible refine (slices_Clone_string_string.calls _ _ l0_0 t612 _ ?side1 ?side2 A2.out).mono ?_
 (case side1=>repeat (first|exact (Kd.C_below HR0_0.out HB.out)|(with_reducible refine Kd.C_alloc ?_ _)|(with_reducible refine Kd.C_drewN ?_ _)|(with_reducible refine Kd.C_drew ?_)))
 (case side2=>exact HC0_0.out)
 rintro e w10 ⟨v613,rfl,ho0,hb⟩
 refine ⟨_,rfl,?_⟩
 have n0_:=Ak (Kd.R_lower ho0 (below_size (by repeat (first|(with_reducible first|exact HB.out|apply below_alloc|apply pw_below_drewN|apply below_drew1|refine below_set ?_ GE610.out|refine below_set ?_ GE611.out)|exact HB.out))))
 have n1_:=Ak (blk_below (g:=gb610) (o:=.cells #[.slice A0_0 l0_0.length c0_0,.slice A0_1 l0_1.length c0_1,.slice A0_2 l0_2.length c0_2,.slice A0_3 l0_3.length c0_3,.slice A0_4 l0_4.length c0_4] 26 (0,0)) (by (with_reducible repeat (first|refine blk_drewN ?_ _|refine blk_drew ?_|refine blk_alloc ?_ _));exact BK610.out) hb)
 have n2_:=Ak (blk_below (g:=gb611) (o:=.cells #[.slice none 0 0,.slice none 0 0,.slice none 0 0,.slice none 0 0,.slice none 0 0] 26 (0,0)) (by (with_reducible repeat (first|refine blk_drewN ?_ _|refine blk_drew ?_|refine blk_alloc ?_ _));exact BK611.out) hb)
 have n3_:=Ak (below_step (by repeat (first|(with_reducible first|exact HB.out|apply below_alloc|apply pw_below_drewN|apply below_drew1|refine below_set ?_ GE610.out|refine below_set ?_ GE611.out)|exact HB.out)) hb)
 clear BK610
 clear BK611
 clear HB
 have HO614:=n0_
 have BK610:=n1_
 have BK611:=n2_
 have HB:=n3_
 clear n0_ n1_ n2_ n3_
 (try clear hb)
 (try clear hb2)
 (try clear hk)
 (try clear hi)
 (try clear ho0)
 refine hK.out _ _ ⟨(blk_cell BK610.out 0).trans rfl,(blk_cell BK610.out 1).trans rfl,(blk_cell BK610.out 2).trans rfl,(blk_cell BK610.out 3).trans rfl,(blk_cell BK610.out 4).trans rfl⟩ (fun hHeld=>?_)
 clear hK K
 refine norm_ (a':=?_) ?_ ?_
 rotate_left
 ·show Act.put _ (some 5) _=_
  simp only [Act.put,zzA,zzB,zzC,i64_w,i32_w]
  rfl
 refine one_ (i:=5) (N:=some 8) #[T0,T0,T0,T0,T0,T0,T0,T0,F0,T0,T0,F0,T0,T0,F0,F0,F0] rfl rfl (one_of HT_.out (by kernel_rfl)) (by decide) (fun K hK=>?_)
 refine goes_ Try.func53 (by kernel_rfl) rfl #[.slice A0_1 l0_1.length c0_1] (by rfl) rfl rfl (by (try simp only [List.map_toArray,List.map_cons,List.map_nil]);first|done|rfl|(simp only [List.length_drop,List.length_take];rfl)) ?_
 with_reducible refine (slices_Clone_string_string.calls _ _ l0_1 t615 _ ?side1 ?side2 A3.out).mono ?_
 (case side1=>repeat (first|exact (Kd.C_below HR0_1.out HB.out)|(with_reducible refine Kd.C_alloc ?_ _)|(with_reducible refine Kd.C_drewN ?_ _)|(with_reducible refine Kd.C_drew ?_)))
 (case side2=>exact HC0_1.out)
 rintro e w11 ⟨v616,rfl,ho0,hb⟩
 refine ⟨_,rfl,?_⟩
 have n0_:=Ak (Kd.R_elder' (by (with_reducible repeat (first|apply Kd.R_alloc|apply Kd.R_drewN|apply Kd.R_drew));exact HO614.out) (Kd.R_base ho0) hb)
 have n1_:=Ak (Kd.R_lower (Kd.R_new' ho0 (Kd.R_lt (by (with_reducible repeat (first|apply Kd.R_alloc|apply Kd.R_drewN|apply Kd.R_drew));exact HO614.out))) (below_size (by repeat (first|(with_reducible first|exact HB.out|apply below_alloc|apply pw_below_drewN|apply below_drew1|refine below_set ?_ GE610.out|refine below_set ?_ GE611.out)|exact HB.out))))
 have n2_:=Ak (blk_below (g:=gb610) (o:=.cells #[.slice A0_0 l0_0.length c0_0,.slice A0_1 l0_1.length c0_1,.slice A0_2 l0_2.length c0_2,.slice A0_3 l0_3.length c0_3,.slice A0_4 l0_4.length c0_4] 26 (0,0)) (by (with_reducible repeat (first|refine blk_drewN ?_ _|refine blk_drew ?_|refine blk_alloc ?_ _));exact BK610.out) hb)
 have n3_:=Ak (blk_below (g:=gb611) (o:=.cells #[.slice none 0 0,.slice none 0 0,.slice none 0 0,.slice none 0 0,.slice none 0 0] 26 (0,0)) (by (with_reducible repeat (first|refine blk_drewN ?_ _|refine blk_drew ?_|refine blk_alloc ?_ _));exact BK611.out) hb)
 have n4_:=Ak (below_step (by repeat (first|(with_reducible first|exact HB.out|apply below_alloc|apply pw_below_drewN|apply below_drew1|refine below_set ?_ GE610.out|refine below_set ?_ GE611.out)|exact HB.out)) hb)
 clear HO614
 clear BK610
 clear BK611
 clear HB
 have HO614:=n0_
 have HO617:=n1_
 have BK610:=n2_
 have BK611:=n3_
 have HB:=n4_
 clear n0_ n1_ n2_ n3_ n4_
 (try clear hb)
 (try clear hb2)
 (try clear hk)
 (try clear hi)
 (try clear ho0)
 refine hK.out _ _ ⟨(blk_cell BK610.out 0).trans rfl,(blk_cell BK610.out 1).trans rfl,(blk_cell BK610.out 2).trans rfl,(blk_cell BK610.out 3).trans rfl,(blk_cell BK610.out 4).trans rfl⟩ (fun hHeld=>?_)
 clear hK K
 refine norm_ (a':=?_) ?_ ?_
 rotate_left
 ·show Act.put _ (some 8) _=_
  simp only [Act.put,zzA,zzB,zzC,i64_w,i32_w]
  rfl
 refine one_ (i:=8) (N:=some 11) #[T0,T0,T0,T0,T0,T0,T0,T0,T0,T0,T0,F0,T0,T0,F0,F0,F0] rfl rfl (one_of HT_.out (by kernel_rfl)) (by decide) (fun K hK=>?_)
 refine goes_ Try.func54 (by kernel_rfl) rfl #[.slice A0_2 l0_2.length c0_2] (by rfl) rfl rfl (by (try simp only [List.map_toArray,List.map_cons,List.map_nil]);first|done|rfl|(simp only [List.length_drop,List.length_take];rfl)) ?_
 with_reducible refine (slices_Clone_int_int.calls _ _ l0_2 t618 _ ?side1 ?side2 A4.out).mono ?_
 (case side1=>repeat (first|exact (Kd.C_below HR0_2.out HB.out)|(with_reducible refine Kd.C_alloc ?_ _)|(with_reducible refine Kd.C_drewN ?_ _)|(with_reducible refine Kd.C_drew ?_)))
 (case side2=>exact HC0_2.out)
 rintro e w12 ⟨v619,rfl,ho0,hb⟩
 refine ⟨_,rfl,?_⟩
 have n0_:=Ak (Kd.R_below (by (with_reducible repeat (first|apply Kd.R_alloc|apply Kd.R_drewN|apply Kd.R_drew));exact HO614.out) hb)
 have n1_:=Ak (Kd.R_below (by (with_reducible repeat (first|apply Kd.R_alloc|apply Kd.R_drewN|apply Kd.R_drew));exact HO617.out) hb)
 have n2_:=Ak (Kd.R_lower ho0 (below_size (by repeat (first|(with_reducible first|exact HB.out|apply below_alloc|apply pw_below_drewN|apply below_drew1|refine below_set ?_ GE610.out|refine below_set ?_ GE611.out)|exact HB.out))))
 have n3_:=Ak (blk_below (g:=gb610) (o:=.cells #[.slice A0_0 l0_0.length c0_0,.slice A0_1 l0_1.length c0_1,.slice A0_2 l0_2.length c0_2,.slice A0_3 l0_3.length c0_3,.slice A0_4 l0_4.length c0_4] 26 (0,0)) (by (with_reducible repeat (first|refine blk_drewN ?_ _|refine blk_drew ?_|refine blk_alloc ?_ _));exact BK610.out) hb)
 have n4_:=Ak (blk_below (g:=gb611) (o:=.cells #[.slice none 0 0,.slice none 0 0,.slice none 0 0,.slice none 0 0,.slice none 0 0] 26 (0,0)) (by (with_reducible repeat (first|refine blk_drewN ?_ _|refine blk_drew ?_|refine blk_alloc ?_ _));exact BK611.out) hb)
 have n5_:=Ak (below_step (by repeat (first|(with_reducible first|exact HB.out|apply below_alloc|apply pw_below_drewN|apply below_drew1|refine below_set ?_ GE610.out|refine below_set ?_ GE611.out)|exact HB.out)) hb)
 clear HO614
 clear HO617
 clear BK610
 clear BK611
 clear HB
 have HO614:=n0_
 have HO617:=n1_
 have HO620:=n2_
 have BK610:=n3_
 have BK611:=n4_
 have HB:=n5_
 clear n0_ n1_ n2_ n3_ n4_ n5_
 (try clear hb)
 (try clear hb2)
 (try clear hk)
 (try clear hi)
 (try clear ho0)
 refine hK.out _ _ ⟨(blk_cell BK610.out 0).trans rfl,(blk_cell BK610.out 1).trans rfl,(blk_cell BK610.out 2).trans rfl,(blk_cell BK610.out 3).trans rfl,(blk_cell BK610.out 4).trans rfl⟩ (fun hHeld=>?_)
 clear hK K
 refine norm_ (a':=?_) ?_ ?_
 rotate_left
 ·show Act.put _ (some 11) _=_
  simp only [Act.put,zzA,zzB,zzC,i64_w,i32_w]
  rfl
 refine one_ (i:=11) (N:=some 14) #[T0,T0,T0,T0,T0,T0,T0,T0,T0,T0,T0,T0,T0,T0,F0,F0,F0] rfl rfl (one_of HT_.out (by kernel_rfl)) (by decide) (fun K hK=>?_)
 refine goes_ Try.func54 (by kernel_rfl) rfl #[.slice A0_3 l0_3.length c0_3] (by rfl) rfl rfl (by (try simp only [List.map_toArray,List.map_cons,List.map_nil]);first|done|rfl|(simp only [List.length_drop,List.length_take];rfl)) ?_
 with_reducible refine (slices_Clone_int_int.calls _ _ l0_3 t621 _ ?side1 ?side2 A5.out).mono ?_
 (case side1=>repeat (first|exact (Kd.C_below HR0_3.out HB.out)|(with_reducible refine Kd.C_alloc ?_ _)|(with_reducible refine Kd.C_drewN ?_ _)|(with_reducible refine Kd.C_drew ?_)))
 (case side2=>exact HC0_3.out)
 rintro e w13 ⟨v622,rfl,ho0,hb⟩
 refine ⟨_,rfl,?_⟩
 have n0_:=Ak (Kd.R_below (by (with_reducible repeat (first|apply Kd.R_alloc|apply Kd.R_drewN|apply Kd.R_drew));exact HO614.out) hb)
 have n1_:=Ak (Kd.R_below (by (with_reducible repeat (first|apply Kd.R_alloc|apply Kd.R_drewN|apply Kd.R_drew));exact HO617.out) hb)
 have n2_:=Ak (Kd.R_elder' (by (with_reducible repeat (first|apply Kd.R_alloc|apply Kd.R_drewN|apply Kd.R_drew));exact HO620.out) (Kd.R_base ho0) hb)
 have n3_:=Ak (Kd.R_lower (Kd.R_new' ho0 (Kd.R_lt (by (with_reducible repeat (first|apply Kd.R_alloc|apply Kd.R_drewN|apply Kd.R_drew));exact HO620.out))) (below_size (by repeat (first|(with_reducible first|exact HB.out|apply below_alloc|apply pw_below_drewN|apply below_drew1|refine below_set ?_ GE610.out|refine below_set ?_ GE611.out)|exact HB.out))))
 have n4_:=Ak (blk_below (g:=gb610) (o:=.cells #[.slice A0_0 l0_0.length c0_0,.slice A0_1 l0_1.length c0_1,.slice A0_2 l0_2.length c0_2,.slice A0_3 l0_3.length c0_3,.slice A0_4 l0_4.length c0_4] 26 (0,0)) (by (with_reducible repeat (first|refine blk_drewN ?_ _|refine blk_drew ?_|refine blk_alloc ?_ _));exact BK610.out) hb)
 have n5_:=Ak (blk_below (g:=gb611) (o:=.cells #[.slice none 0 0,.slice none 0 0,.slice none 0 0,.slice none 0 0,.slice none 0 0] 26 (0,0)) (by (with_reducible repeat (first|refine blk_drewN ?_ _|refine blk_drew ?_|refine blk_alloc ?_ _));exact BK611.out) hb)
 have n6_:=Ak (below_step (by repeat (first|(with_reducible first|exact HB.out|apply below_alloc|apply pw_below_drewN|apply below_drew1|refine below_set ?_ GE610.out|refine below_set ?_ GE611.out)|exact HB.out)) hb)
 clear HO614
 clear HO617
 clear HO620
 clear BK610
 clear BK611
 clear HB
 have HO614:=n0_
 have HO617:=n1_
 have HO620:=n2_
 have HO623:=n3_
 have BK610:=n4_
 have BK611:=n5_
 have HB:=n6_
 clear n0_ n1_ n2_ n3_ n4_ n5_ n6_
 (try clear hb)
 (try clear hb2)
 (try clear hk)
 (try clear hi)
 (try clear ho0)
 refine hK.out _ _ ⟨(blk_cell BK610.out 0).trans rfl,(blk_cell BK610.out 1).trans rfl,(blk_cell BK610.out 2).trans rfl,(blk_cell BK610.out 3).trans rfl,(blk_cell BK610.out 4).trans rfl⟩ (fun hHeld=>?_)
 clear hK K
 refine norm_ (a':=?_) ?_ ?_
 rotate_left
 ·show Act.put _ (some 14) _=_
  simp only [Act.put,zzA,zzB,zzC,i64_w,i32_w]
  rfl
 refine one_ (i:=14) (N:=some 17) #[T0,T0,T0,T0,T0,T0,T0,T0,T0,T0,T0,T0,T0,T0,T0,F0,F0] rfl rfl (one_of HT_.out (by kernel_rfl)) (by decide) (fun K hK=>?_)
 refine goes_ Try.func54 (by kernel_rfl) rfl #[.slice A0_4 l0_4.length c0_4] (by rfl) rfl rfl (by (try simp only [List.map_toArray,List.map_cons,List.map_nil]);first|done|rfl|(simp only [List.length_drop,List.length_take];rfl)) ?_
 with_reducible refine (slices_Clone_int_int.calls _ _ l0_4 t624 _ ?side1 ?side2 A6.out).mono ?_
 (case side1=>repeat (first|exact (Kd.C_below HR0_4.out HB.out)|(with_reducible refine Kd.C_alloc ?_ _)|(with_reducible refine Kd.C_drewN ?_ _)|(with_reducible refine Kd.C_drew ?_)))
 (case side2=>exact HC0_4.out)
 rintro e w14 ⟨v625,rfl,ho0,hb⟩
 refine ⟨_,rfl,?_⟩
 have n0_:=Ak (Kd.R_below (by (with_reducible repeat (first|apply Kd.R_alloc|apply Kd.R_drewN|apply Kd.R_drew));exact HO614.out) hb)
 have n1_:=Ak (Kd.R_below (by (with_reducible repeat (first|apply Kd.R_alloc|apply Kd.R_drewN|apply Kd.R_drew));exact HO617.out) hb)
 have n2_:=Ak (Kd.R_elder' (by (with_reducible repeat (first|apply Kd.R_alloc|apply Kd.R_drewN|apply Kd.R_drew));exact HO620.out) (Kd.R_base ho0) hb)
 have n3_:=Ak (Kd.R_elder' (by (with_reducible repeat (first|apply Kd.R_alloc|apply Kd.R_drewN|apply Kd.R_drew));exact HO623.out) (Kd.R_base ho0) hb)
 have n4_:=Ak (Kd.R_lower (Kd.R_new' (Kd.R_new' ho0 (Kd.R_lt (by (with_reducible repeat (first|apply Kd.R_alloc|apply Kd.R_drewN|apply Kd.R_drew));exact HO620.out))) (Kd.R_lt (by (with_reducible repeat (first|apply Kd.R_alloc|apply Kd.R_drewN|apply Kd.R_drew));exact HO623.out))) (below_size (by repeat (first|(with_reducible first|exact HB.out|apply below_alloc|apply pw_below_drewN|apply below_drew1|refine below_set ?_ GE610.out|refine below_set ?_ GE611.out)|exact HB.out))))
 have n5_:=Ak (blk_below (g:=gb610) (o:=.cells #[.slice A0_0 l0_0.length c0_0,.slice A0_1 l0_1.length c0_1,.slice A0_2 l0_2.length c0_2,.slice A0_3 l0_3.length c0_3,.slice A0_4 l0_4.length c0_4] 26 (0,0)) (by (with_reducible repeat (first|refine blk_drewN ?_ _|refine blk_drew ?_|refine blk_alloc ?_ _));exact BK610.out) hb)
 have n6_:=Ak (blk_below (g:=gb611) (o:=.cells #[.slice none 0 0,.slice none 0 0,.slice none 0 0,.slice none 0 0,.slice none 0 0] 26 (0,0)) (by (with_reducible repeat (first|refine blk_drewN ?_ _|refine blk_drew ?_|refine blk_alloc ?_ _));exact BK611.out) hb)
 have n7_:=Ak (below_step (by repeat (first|(with_reducible first|exact HB.out|apply below_alloc|apply pw_below_drewN|apply below_drew1|refine below_set ?_ GE610.out|refine below_set ?_ GE611.out)|exact HB.out)) hb)
 clear HO614
 clear HO617
 clear HO620
 clear HO623
 clear BK610
 clear BK611
 clear HB
 have HO614:=n0_
 have HO617:=n1_
 have HO620:=n2_
 have HO623:=n3_
 have HO626:=n4_
 have BK610:=n5_
 have BK611:=n6_
 have HB:=n7_
 clear n0_ n1_ n2_ n3_ n4_ n5_ n6_ n7_
 (try clear hb)
 (try clear hb2)
 (try clear hk)
 (try clear hi)
 (try clear ho0)
 obtain ⟨Ao15,co15,eo15⟩:=Kd.R_slice HO626.out
 (first|subst eo15|(injection eo15 with f1_ f2_ f3_;have f4_:=f1_.symm;have f5_:=f3_.symm;clear f1_ f2_ f3_;subst f4_;subst f5_))
 obtain ⟨Ao16,co16,eo16⟩:=Kd.R_slice HO623.out
 (first|subst eo16|(injection eo16 with f1_ f2_ f3_;have f4_:=f1_.symm;have f5_:=f3_.symm;clear f1_ f2_ f3_;subst f4_;subst f5_))
 obtain ⟨Ao17,co17,eo17⟩:=Kd.R_slice HO620.out
 (first|subst eo17|(injection eo17 with f1_ f2_ f3_;have f4_:=f1_.symm;have f5_:=f3_.symm;clear f1_ f2_ f3_;subst f4_;subst f5_))
 obtain ⟨Ao18,co18,eo18⟩:=Kd.R_slice HO617.out
 (first|subst eo18|(injection eo18 with f1_ f2_ f3_;have f4_:=f1_.symm;have f5_:=f3_.symm;clear f1_ f2_ f3_;subst f4_;subst f5_))
 obtain ⟨Ao19,co19,eo19⟩:=Kd.R_slice HO614.out
 (first|subst eo19|(injection eo19 with f1_ f2_ f3_;have f4_:=f1_.symm;have f5_:=f3_.symm;clear f1_ f2_ f3_;subst f4_;subst f5_))
 refine hK.out _ _ ⟨(blk_cell BK610.out 0).trans rfl,(blk_cell BK610.out 1).trans rfl,(blk_cell BK610.out 2).trans rfl,(blk_cell BK610.out 3).trans rfl,(blk_cell BK610.out 4).trans rfl⟩ (fun hHeld=>?_)
 clear hK K
 refine norm_ (a':=?_) ?_ ?_
 rotate_left
 ·show Act.put _ (some 17) _=_
  simp only [Act.put,zzA,zzB,zzC,i64_w,i32_w]
  rfl
 refine pure_ (i:=15) (N:=some 18) (v:=?_) (a':=?_) #[T0,T0,T0,T0,T0,T0,T0,T0,T0,T0,T0,T0,T0,T0,T0,T0,F0] rfl rfl (any_of HT_.out (by kernel_rfl)) (fun _ _ _ h=>h) (Or.inl ⟨by rfl,?_⟩) ?_ ?_
 rotate_left
 ·intro w'
  go_simp
  with_reducible rfl
 rotate_left
 ·simp only [Act.put,zzA,zzB,zzC,i64_w,i32_w]
  rfl
 refine one_ (i:=16) (N:=none) #[T0,T0,T0,T0,T0,T0,T0,T0,T0,T0,T0,T0,T0,T0,T0,T0,T0] rfl rfl (one_of HT_.out (by kernel_rfl)) (by decide) (fun K hK=>?_)
 have hs20:w14.cell? ⟨gb611,0,none⟩=some (.slice none 0 0):=(blk_cell BK611.out 0).trans rfl
 have hfs20:=blk_frozen BK611.out 0
 have hns20_0:=NB610_611.out
 have hms20_0:=NB611_610.out
 have hs21:w14.cell? ⟨gb611,1,none⟩=some (.slice none 0 0):=(blk_cell BK611.out 1).trans rfl
 have hfs21:=blk_frozen BK611.out 1
 have hns21_0:=NB610_611.out
 have hms21_0:=NB611_610.out
 have hs22:w14.cell? ⟨gb611,2,none⟩=some (.slice none 0 0):=(blk_cell BK611.out 2).trans rfl
 have hfs22:=blk_frozen BK611.out 2
 have hns22_0:=NB610_611.out
 have hms22_0:=NB611_610.out
 have hs23:w14.cell? ⟨gb611,3,none⟩=some (.slice none 0 0):=(blk_cell BK611.out 3).trans rfl
 have hfs23:=blk_frozen BK611.out 3
 have hns23_0:=NB610_611.out
 have hms23_0:=NB611_610.out
 have hs24:w14.cell? ⟨gb611,4,none⟩=some (.slice none 0 0):=(blk_cell BK611.out 4).trans rfl
 have hfs24:=blk_frozen BK611.out 4
 have hns24_0:=NB610_611.out
 have hms24_0:=NB611_610.out
 refine skip_ (w1:=?_) (by rfl) rfl ?_ ?_
 rotate_left
 ·go_simp
  rfl
 refine hK.out _ _ ⟨((cell_far (p:=⟨gb611,_,none⟩) NB610_611.out _).trans (((cell_far (p:=⟨gb611,_,none⟩) NB610_611.out _).trans (((cell_far (p:=⟨gb611,_,none⟩) NB610_611.out _).trans (((cell_far (p:=⟨gb611,_,none⟩) NB610_611.out _).trans (((cell_far (p:=⟨gb611,_,none⟩) NB610_611.out _).trans (hHeld.1)))))))))),((cell_far (p:=⟨gb611,_,none⟩) NB610_611.out _).trans (((cell_far (p:=⟨gb611,_,none⟩) NB610_611.out _).trans (((cell_far (p:=⟨gb611,_,none⟩) NB610_611.out _).trans (((cell_far (p:=⟨gb611,_,none⟩) NB610_611.out _).trans (((cell_far (p:=⟨gb611,_,none⟩) NB610_611.out _).trans (hHeld.2.1)))))))))),((cell_far (p:=⟨gb611,_,none⟩) NB610_611.out _).trans (((cell_far (p:=⟨gb611,_,none⟩) NB610_611.out _).trans (((cell_far (p:=⟨gb611,_,none⟩) NB610_611.out _).trans (((cell_far (p:=⟨gb611,_,none⟩) NB610_611.out _).trans (((cell_far (p:=⟨gb611,_,none⟩) NB610_611.out _).trans (hHeld.2.2.1)))))))))),((cell_far (p:=⟨gb611,_,none⟩) NB610_611.out _).trans (((cell_far (p:=⟨gb611,_,none⟩) NB610_611.out _).trans (((cell_far (p:=⟨gb611,_,none⟩) NB610_611.out _).trans (((cell_far (p:=⟨gb611,_,none⟩) NB610_611.out _).trans (((cell_far (p:=⟨gb611,_,none⟩) NB610_611.out _).trans (hHeld.2.2.2.1)))))))))),((cell_far (p:=⟨gb611,_,none⟩) NB610_611.out _).trans (((cell_far (p:=⟨gb611,_,none⟩) NB610_611.out _).trans (((cell_far (p:=⟨gb611,_,none⟩) NB610_611.out _).trans (((cell_far (p:=⟨gb611,_,none⟩) NB610_611.out _).trans (((cell_far (p:=⟨gb611,_,none⟩) NB610_611.out _).trans (hHeld.2.2.2.2))))))))))⟩ (fun hHeld=>?_)
 clear hK K
 refine done_ (done_of HT_.out (by kernel_rfl)) ?_
 try go_wp2
 refine bodyPost_ret (results_cell_row rfl _ _ gb611 26 #[.slice Ao19 t612.length co19,.slice Ao18 t615.length co18,.slice Ao17 t618.length co17,.slice Ao16 t621.length co16,.slice Ao15 t624.length co15] (0,0) _ rfl (by (with_reducible repeat (first|refine blk_drewN ?_ _|refine blk_drew ?_|refine blk_alloc ?_ _));refine blk_put (cs:=#[.slice Ao19 t612.length co19,.slice Ao18 t615.length co18,.slice Ao17 t618.length co17,.slice Ao16 t621.length co16,.slice none 0 0]) ?_ 4 _ rfl;(with_reducible repeat (first|refine blk_drewN ?_ _|refine blk_drew ?_|refine blk_alloc ?_ _));refine blk_put (cs:=#[.slice Ao19 t612.length co19,.slice Ao18 t615.length co18,.slice Ao17 t618.length co17,.slice none 0 0,.slice none 0 0]) ?_ 3 _ rfl;(with_reducible repeat (first|refine blk_drewN ?_ _|refine blk_drew ?_|refine blk_alloc ?_ _));refine blk_put (cs:=#[.slice Ao19 t612.length co19,.slice Ao18 t615.length co18,.slice none 0 0,.slice none 0 0,.slice none 0 0]) ?_ 2 _ rfl;(with_reducible repeat (first|refine blk_drewN ?_ _|refine blk_drew ?_|refine blk_alloc ?_ _));refine blk_put (cs:=#[.slice Ao19 t612.length co19,.slice none 0 0,.slice none 0 0,.slice none 0 0,.slice none 0 0]) ?_ 1 _ rfl;(with_reducible repeat (first|refine blk_drewN ?_ _|refine blk_drew ?_|refine blk_alloc ?_ _));refine blk_put (cs:=#[.slice none 0 0,.slice none 0 0,.slice none 0 0,.slice none 0 0,.slice none 0 0]) ?_ 0 _ rfl;(with_reducible repeat (first|refine blk_drewN ?_ _|refine blk_drew ?_|refine blk_alloc ?_ _));exact BK611.out) Try.underlying26 rfl (by kernel_rfl)) rfl ?_
 exact ⟨_,_,_,_,_,by first|rfl|(simp [errW_none,errW_some] <;> rfl)|(simp [*,errW_none,errW_some] <;> rfl),by (with_reducible repeat (first|apply Kd.R_alloc|apply Kd.R_drewN|apply Kd.R_drew));exact Kd.R_mono (Kd.R_far (p:=⟨gb611,4,none⟩) (Kd.R_far (p:=⟨gb611,3,none⟩) (Kd.R_far (p:=⟨gb611,2,none⟩) (Kd.R_far (p:=⟨gb611,1,none⟩) (Kd.R_far (p:=⟨gb611,0,none⟩) (Kd.R_types HO614.out BK611.out (by decide)) (fun _ hk=>hk.2) (.slice Ao19 t612.length co19)) (fun _ hk=>hk.2) (.slice Ao18 t615.length co18)) (fun _ hk=>hk.2) (.slice Ao17 t618.length co17)) (fun _ hk=>hk.2) (.slice Ao16 t621.length co16)) (fun _ hk=>hk.2) (.slice Ao15 t624.length co15)) (fun _ hk=>hk.1.2),by (with_reducible repeat (first|apply Kd.R_alloc|apply Kd.R_drewN|apply Kd.R_drew));exact Kd.R_mono (Kd.R_far (p:=⟨gb611,4,none⟩) (Kd.R_far (p:=⟨gb611,3,none⟩) (Kd.R_far (p:=⟨gb611,2,none⟩) (Kd.R_far (p:=⟨gb611,1,none⟩) (Kd.R_far (p:=⟨gb611,0,none⟩) (Kd.R_types HO617.out BK611.out (by decide)) (fun _ hk=>hk.2) (.slice Ao19 t612.length co19)) (fun _ hk=>hk.2) (.slice Ao18 t615.length co18)) (fun _ hk=>hk.2) (.slice Ao17 t618.length co17)) (fun _ hk=>hk.2) (.slice Ao16 t621.length co16)) (fun _ hk=>hk.2) (.slice Ao15 t624.length co15)) (fun _ hk=>hk.1.2),by (with_reducible repeat (first|apply Kd.R_alloc|apply Kd.R_drewN|apply Kd.R_drew));exact Kd.R_mono (Kd.R_far (p:=⟨gb611,4,none⟩) (Kd.R_far (p:=⟨gb611,3,none⟩) (Kd.R_far (p:=⟨gb611,2,none⟩) (Kd.R_far (p:=⟨gb611,1,none⟩) (Kd.R_far (p:=⟨gb611,0,none⟩) (Kd.R_types HO620.out BK611.out (by decide)) (fun _ hk=>hk.2) (.slice Ao19 t612.length co19)) (fun _ hk=>hk.2) (.slice Ao18 t615.length co18)) (fun _ hk=>hk.2) (.slice Ao17 t618.length co17)) (fun _ hk=>hk.2) (.slice Ao16 t621.length co16)) (fun _ hk=>hk.2) (.slice Ao15 t624.length co15)) (fun _ hk=>⟨hk.1.1.2,hk.1.2⟩),by (with_reducible repeat (first|apply Kd.R_alloc|apply Kd.R_drewN|apply Kd.R_drew));exact Kd.R_mono (Kd.R_far (p:=⟨gb611,4,none⟩) (Kd.R_far (p:=⟨gb611,3,none⟩) (Kd.R_far (p:=⟨gb611,2,none⟩) (Kd.R_far (p:=⟨gb611,1,none⟩) (Kd.R_far (p:=⟨gb611,0,none⟩) (Kd.R_types HO623.out BK611.out (by decide)) (fun _ hk=>hk.2) (.slice Ao19 t612.length co19)) (fun _ hk=>hk.2) (.slice Ao18 t615.length co18)) (fun _ hk=>hk.2) (.slice Ao17 t618.length co17)) (fun _ hk=>hk.2) (.slice Ao16 t621.length co16)) (fun _ hk=>hk.2) (.slice Ao15 t624.length co15)) (fun _ hk=>⟨hk.1.1.2,hk.1.2⟩),by (with_reducible repeat (first|apply Kd.R_alloc|apply Kd.R_drewN|apply Kd.R_drew));exact Kd.R_mono (Kd.R_far (p:=⟨gb611,4,none⟩) (Kd.R_far (p:=⟨gb611,3,none⟩) (Kd.R_far (p:=⟨gb611,2,none⟩) (Kd.R_far (p:=⟨gb611,1,none⟩) (Kd.R_far (p:=⟨gb611,0,none⟩) (Kd.R_types HO626.out BK611.out (by decide)) (fun _ hk=>hk.2) (.slice Ao19 t612.length co19)) (fun _ hk=>hk.2) (.slice Ao18 t615.length co18)) (fun _ hk=>hk.2) (.slice Ao17 t618.length co17)) (fun _ hk=>hk.2) (.slice Ao16 t621.length co16)) (fun _ hk=>hk.2) (.slice Ao15 t624.length co15)) (fun _ hk=>⟨hk.1.1.2,hk.1.2⟩),by repeat (first|(with_reducible first|exact HB.out|apply below_alloc|apply pw_below_drewN|apply below_drew1|refine below_set ?_ GE610.out|refine below_set ?_ GE611.out)|exact HB.out)⟩
def spec_StoreSync.f (k:Nat) (l0_0:List ByteArray) (l0_1:List ByteArray) (l0_2:List Int) (l0_3:List Int) (l0_4:List Int):Option (List ByteArray × List ByteArray × List Int × List Int × List Int):=(spec_StoreOk.f k l0_0 l0_1 l0_2 l0_3 l0_4).bind fun t246=>(if t246=true then ((spec_l5Copy.f l0_0 l0_1 l0_2 l0_3 l0_4).bind fun bt247=>((some (([]:List ByteArray):List ByteArray)).bind fun y263=>(if y263.length + l0_0.length<8796093022208 then ((some (([]:List Int):List Int)).bind fun y269=>(if y269.length + l0_2.length<17592186044416 then (some (bt247.1,(y263 ++ l0_0),bt247.2.2.1,(y269 ++ l0_2),bt247.2.2.2.2)) else (none))) else (none)))) else (some (([]:List ByteArray),([]:List ByteArray),([]:List Int),([]:List Int),([]:List Int))))
theorem spec_StoreSync.calls (k:Nat) (A0_0:Option Addr) (c0_0:Nat) (l0_0:List ByteArray) (A0_1:Option Addr) (c0_1:Nat) (l0_1:List ByteArray) (A0_2:Option Addr) (c0_2:Nat) (l0_2:List Int) (A0_3:Option Addr) (c0_3:Nat) (l0_3:List Int) (A0_4:Option Addr) (c0_4:Nat) (l0_4:List Int) (r1:List ByteArray) (r2:List ByteArray) (r3:List Int) (r4:List Int) (r5:List Int) (w:World) (hr0_0:Kd.C Kd.string w A0_0 l0_0.length l0_0) (hc0_0:l0_0.length≤c0_0) (hr0_1:Kd.C Kd.string w A0_1 l0_1.length l0_1) (hc0_1:l0_1.length≤c0_1) (hr0_2:Kd.C (Kd.int .i64) w A0_2 l0_2.length l0_2) (hc0_2:l0_2.length≤c0_2) (hr0_3:Kd.C (Kd.int .i64) w A0_3 l0_3.length l0_3) (hc0_3:l0_3.length≤c0_3) (hr0_4:Kd.C (Kd.int .i64) w A0_4 l0_4.length l0_4) (hc0_4:l0_4.length≤c0_4) (h:spec_StoreSync.f k l0_0 l0_1 l0_2 l0_3 l0_4=some (r1,r2,r3,r4,r5)) :
  Calls Try.prog 36 #[.agg #[.slice A0_0 l0_0.length c0_0,.slice A0_1 l0_1.length c0_1,.slice A0_2 l0_2.length c0_2,.slice A0_3 l0_3.length c0_3,.slice A0_4 l0_4.length c0_4]] w fun e w'=>∃ v0_ v1_ v2_ v3_ v4_:Value,e = .returned (.agg #[v0_,v1_,v2_,v3_,v4_])∧Kd.R Kd.string 9 w' w.heap.size (fun k_=>some k_ ≠ (v1_:Value).ownBlock) v0_ r1∧Kd.R Kd.string 9 w' w.heap.size (fun k_=>some k_ ≠ (v0_:Value).ownBlock) v1_ r2∧Kd.R (Kd.int .i64) 3 w' w.heap.size (fun k_=>some k_ ≠ (v3_:Value).ownBlock∧some k_ ≠ (v4_:Value).ownBlock) v2_ r3∧Kd.R (Kd.int .i64) 3 w' w.heap.size (fun k_=>some k_ ≠ (v2_:Value).ownBlock∧some k_ ≠ (v4_:Value).ownBlock) v3_ r4∧Kd.R (Kd.int .i64) 3 w' w.heap.size (fun k_=>some k_ ≠ (v2_:Value).ownBlock∧some k_ ≠ (v3_:Value).ownBlock) v4_ r5∧Below w.heap.size w w':=by
 have hu26:=Try.underlying26
 have HR0_0:=Ak hr0_0
 have HC0_0:=Ak hc0_0
 clear hr0_0 hc0_0
 have HR0_1:=Ak hr0_1
 have HC0_1:=Ak hc0_1
 clear hr0_1 hc0_1
 have HR0_2:=Ak hr0_2
 have HC0_2:=Ak hc0_2
 clear hr0_2 hc0_2
 have HR0_3:=Ak hr0_3
 have HC0_3:=Ak hc0_3
 clear hr0_3 hc0_3
 have HR0_4:=Ak hr0_4
 have HC0_4:=Ak hc0_4
 clear hr0_4 hc0_4
 have HB:=Ak (Below.refl w.heap.size w)
 have H:((spec_StoreOk.f k l0_0 l0_1 l0_2 l0_3 l0_4).bind fun t246=>(if t246=true then ((spec_l5Copy.f l0_0 l0_1 l0_2 l0_3 l0_4).bind fun bt247=>((some (([]:List ByteArray):List ByteArray)).bind fun y263=>(if y263.length + l0_0.length<8796093022208 then ((some (([]:List Int):List Int)).bind fun y269=>(if y269.length + l0_2.length<17592186044416 then (some (bt247.1,(y263 ++ l0_0),bt247.2.2.1,(y269 ++ l0_2),bt247.2.2.2.2)) else (none))) else (none)))) else (some (([]:List ByteArray),([]:List ByteArray),([]:List Int),([]:List Int),([]:List Int)))))=some (r1,r2,r3,r4,r5):=h
 clear h
 replace H:=Option.bind_eq_some_iff.mp H
 obtain ⟨t246,A20,H⟩:=H
 replace H:(if t246=true then ((spec_l5Copy.f l0_0 l0_1 l0_2 l0_3 l0_4).bind fun bt247=>((some (([]:List ByteArray):List ByteArray)).bind fun y263=>(if y263.length + l0_0.length<8796093022208 then ((some (([]:List Int):List Int)).bind fun y269=>(if y269.length + l0_2.length<17592186044416 then (some (bt247.1,(y263 ++ l0_0),bt247.2.2.1,(y269 ++ l0_2),bt247.2.2.2.2)) else (none))) else (none)))) else (some (([]:List ByteArray),([]:List ByteArray),([]:List Int),([]:List Int),([]:List Int))))=some (r1,r2,r3,r4,r5):=H
 have A2:=Ak A20
 clear A20
 by_cases c3:t246=true
 ·subst c3
  have H1:((spec_l5Copy.f l0_0 l0_1 l0_2 l0_3 l0_4).bind fun bt247=>((some (([]:List ByteArray):List ByteArray)).bind fun y263=>(if y263.length + l0_0.length<8796093022208 then ((some (([]:List Int):List Int)).bind fun y269=>(if y269.length + l0_2.length<17592186044416 then (some (bt247.1,(y263 ++ l0_0),bt247.2.2.1,(y269 ++ l0_2),bt247.2.2.2.2)) else (none))) else (none))))=some (r1,r2,r3,r4,r5):=by rw [if_pos rfl] at H;exact H
  clear H
  have H:=H1
  clear H1
  replace H:=Option.bind_eq_some_iff.mp H
  obtain ⟨⟨t247,t250,t253,t256,t259⟩,A40,H⟩:=H
  replace H:((some (([]:List ByteArray):List ByteArray)).bind fun y263=>(if y263.length + l0_0.length<8796093022208 then ((some (([]:List Int):List Int)).bind fun y269=>(if y269.length + l0_2.length<17592186044416 then (some (t247,(y263 ++ l0_0),t253,(y269 ++ l0_2),t259)) else (none))) else (none)))=some (r1,r2,r3,r4,r5):=H
  have A4:=Ak A40
  clear A40
  obtain ⟨y263,hy263⟩:∃ y_:List ByteArray,y_=(([]:List ByteArray)):=⟨_,rfl⟩
  replace H:(if y263.length + l0_0.length<8796093022208 then ((some (([]:List Int):List Int)).bind fun y269=>(if y269.length + l0_2.length<17592186044416 then (some (t247,(y263 ++ l0_0),t253,(y269 ++ l0_2),t259)) else (none))) else (none))=some (r1,r2,r3,r4,r5):=by first|(rw [hy263];with_reducible exact H)|(have H2_:=(Option.bind_some _ _).symm.trans H;rw [hy263];with_reducible exact H2_)|(have H2_:=(Option.bind_some _ _).symm.trans H;with_reducible exact H2_)|with_reducible exact H|(rw [hy263];exact H)|exact H
  have Ny263:=Ak hy263
  clear hy263
  by_cases c5:y263.length + l0_0.length<8796093022208
  ·rw [if_pos c5] at H
   have LMc5:=Ak c5
   clear c5
   obtain ⟨y266,hy266⟩:∃ y_:List ByteArray,y_=(y263 ++ l0_0):=⟨_,rfl⟩
   replace H:((some (([]:List Int):List Int)).bind fun y269=>(if y269.length + l0_2.length<17592186044416 then (some (t247,y266,t253,(y269 ++ l0_2),t259)) else (none)))=some (r1,r2,r3,r4,r5):=by first|(rw [hy266];with_reducible exact H)|(have H2_:=(Option.bind_some _ _).symm.trans H;rw [hy266];with_reducible exact H2_)|(have H2_:=(Option.bind_some _ _).symm.trans H;with_reducible exact H2_)|with_reducible exact H|(rw [hy266];exact H)|exact H
   have Ny266:=Ak hy266
   clear hy266
   obtain ⟨y269,hy269⟩:∃ y_:List Int,y_=(([]:List Int)):=⟨_,rfl⟩
   replace H:(if y269.length + l0_2.length<17592186044416 then (some (t247,y266,t253,(y269 ++ l0_2),t259)) else (none))=some (r1,r2,r3,r4,r5):=by first|(rw [hy269];with_reducible exact H)|(have H2_:=(Option.bind_some _ _).symm.trans H;rw [hy269];with_reducible exact H2_)|(have H2_:=(Option.bind_some _ _).symm.trans H;with_reducible exact H2_)|with_reducible exact H|(rw [hy269];exact H)|exact H
   have Ny269:=Ak hy269
   clear hy269
   by_cases c6:y269.length + l0_2.length<17592186044416
   ·rw [if_pos c6] at H
    have LMc6:=Ak c6
    clear c6
    obtain ⟨y272,hy272⟩:∃ y_:List Int,y_=(y269 ++ l0_2):=⟨_,rfl⟩
    replace H:(some (t247,y266,t253,y272,t259))=some (r1,r2,r3,r4,r5):=by first|(rw [hy272];with_reducible exact H)|(have H2_:=(Option.bind_some _ _).symm.trans H;rw [hy272];with_reducible exact H2_)|(have H2_:=(Option.bind_some _ _).symm.trans H;with_reducible exact H2_)|with_reducible exact H|(rw [hy272];exact H)|exact H
    have Ny272:=Ak hy272
    clear hy272
    simp only [Option.some.injEq,Prod.mk.injEq] at H
    obtain ⟨rfl,rfl,rfl,rfl,rfl⟩:=H
    go_enter Try.func36,Try.ntmps36
    go_wp2_with (first|((with_reducible refine gate_dst (N:=1) rfl ?_);refine box_event ?hg (N:=1) ?hd (cs:=#[.slice A0_0 l0_0.length c0_0,.slice A0_1 l0_1.length c0_1,.slice A0_2 l0_2.length c0_2,.slice A0_3 l0_3.length c0_3,.slice A0_4 l0_4.length c0_4]) (t:=26) ?hr ?_;(case hd=>rfl);(case hg=>rfl);(case hr=>first|(go_simp;done)|(go_simp;rfl));intro gb244 hg w7 hbox hb;have n0_:=Ak (below_step (by repeat (first|(with_reducible first|exact HB.out|apply below_alloc|apply pw_below_drewN|apply below_drew1)|exact HB.out)) hb);have n1_:=Ak (hbox);have n2_:=Ak ((by rw [hg];exact (below_size (by repeat (first|(with_reducible first|exact HB.out|apply below_alloc|apply pw_below_drewN|apply below_drew1)|exact HB.out))):w.heap.size≤gb244));have n3_:=Ak ((by rw [hg];exact (below_size (by repeat (first|(with_reducible first|exact HB.out|apply below_alloc|apply pw_below_drewN|apply below_drew1)|exact HB.out))):w.heap.size≤gb244));clear HB;have HB:=n0_;have BK244:=n1_;have GW244:=n2_;have GE244:=n3_;clear n0_ n1_ n2_ n3_;clear hb hbox hg)|((with_reducible refine gate_dst (N:=2) rfl ?_);refine box_event ?hg (N:=2) ?hd (cs:=#[.slice none 0 0,.slice none 0 0,.slice none 0 0,.slice none 0 0,.slice none 0 0]) (t:=26) ?hr ?_;(case hd=>rfl);(case hg=>rfl);(case hr=>first|(go_simp;done)|(go_simp;rfl));intro gb245 hg w8 hbox hb;have n0_:=Ak (blk_below (g:=gb244) (o:=.cells #[.slice A0_0 l0_0.length c0_0,.slice A0_1 l0_1.length c0_1,.slice A0_2 l0_2.length c0_2,.slice A0_3 l0_3.length c0_3,.slice A0_4 l0_4.length c0_4] 26 (0,0)) (by (with_reducible repeat (first|refine blk_drewN ?_ _|refine blk_drew ?_|refine blk_alloc ?_ _));exact BK244.out) hb);have n1_:=Ak (below_step (by repeat (first|(with_reducible first|exact HB.out|apply below_alloc|apply pw_below_drewN|apply below_drew1|refine below_set ?_ GE244.out)|exact HB.out)) hb);have n2_:=Ak (hbox);have n3_:=Ak ((by rw [hg];exact (below_size (by repeat (first|(with_reducible first|exact HB.out|apply below_alloc|apply pw_below_drewN|apply below_drew1|refine below_set ?_ GE244.out)|exact HB.out))):w.heap.size≤gb245));have n4_:=Ak ((by rw [hg];exact (below_size (by repeat (first|(with_reducible first|exact HB.out|apply below_alloc|apply pw_below_drewN|apply below_drew1|refine below_set ?_ GE244.out)|exact HB.out))):w.heap.size≤gb245));have n5_:=Ak ((by rw [hg];exact Nat.ne_of_lt (blk_lt (g:=gb244) (o:=.cells #[.slice A0_0 l0_0.length c0_0,.slice A0_1 l0_1.length c0_1,.slice A0_2 l0_2.length c0_2,.slice A0_3 l0_3.length c0_3,.slice A0_4 l0_4.length c0_4] 26 (0,0)) (by (with_reducible repeat (first|refine blk_drewN ?_ _|refine blk_drew ?_|refine blk_alloc ?_ _));exact BK244.out)):gb244 ≠ gb245));have n6_:=Ak ((by rw [hg];exact Nat.ne_of_gt (blk_lt (g:=gb244) (o:=.cells #[.slice A0_0 l0_0.length c0_0,.slice A0_1 l0_1.length c0_1,.slice A0_2 l0_2.length c0_2,.slice A0_3 l0_3.length c0_3,.slice A0_4 l0_4.length c0_4] 26 (0,0)) (by (with_reducible repeat (first|refine blk_drewN ?_ _|refine blk_drew ?_|refine blk_alloc ?_ _));exact BK244.out)):gb245 ≠ gb244));clear BK244;clear HB;have BK244:=n0_;have HB:=n1_;have BK245:=n2_;have GW245:=n3_;have GE245:=n4_;have NB244_245:=n5_;have NB245_244:=n6_;clear n0_ n1_ n2_ n3_ n4_ n5_ n6_;clear hb hbox hg;have hnb9:=NB244_245.out;have hnc9:=NB245_244.out;have hcz10_0:w8.cell? ⟨gb244,0,none⟩=some (.slice A0_0 l0_0.length c0_0):=(blk_cell BK244.out 0).trans rfl;have hcz10_1:w8.cell? ⟨gb244,1,none⟩=some (.slice A0_1 l0_1.length c0_1):=(blk_cell BK244.out 1).trans rfl;have hcz10_2:w8.cell? ⟨gb244,2,none⟩=some (.slice A0_2 l0_2.length c0_2):=(blk_cell BK244.out 2).trans rfl;have hcz10_3:w8.cell? ⟨gb244,3,none⟩=some (.slice A0_3 l0_3.length c0_3):=(blk_cell BK244.out 3).trans rfl;have hcz10_4:w8.cell? ⟨gb244,4,none⟩=some (.slice A0_4 l0_4.length c0_4):=(blk_cell BK244.out 4).trans rfl;have hfz10_0:=blk_frozen BK244.out 0;have hfz10_1:=blk_frozen BK244.out 1;have hfz10_2:=blk_frozen BK244.out 2;have hfz10_3:=blk_frozen BK244.out 3;have hfz10_4:=blk_frozen BK244.out 4)|((with_reducible refine gate_callee (f:=19) rfl ?_);refine goesL_ (some 5) rfl rfl Try.func19 (by kernel_rfl) rfl #[.agg #[.slice A0_0 l0_0.length c0_0,.slice A0_1 l0_1.length c0_1,.slice A0_2 l0_2.length c0_2,.slice A0_3 l0_3.length c0_3,.slice A0_4 l0_4.length c0_4]] rfl (by (try simp only [List.map_toArray,List.map_cons,List.map_nil]);first|done|rfl|(simp only [List.length_drop,List.length_take];rfl)) ?_;(with_reducible refine (spec_StoreOk.calls k _ _ l0_0 _ _ l0_1 _ _ l0_2 _ _ l0_3 _ _ l0_4 true _ ?side1 ?side2 ?side3 ?side4 ?side5 ?side6 ?side7 ?side8 ?side9 ?side10 A2.out).mono ?_);(case side1=>repeat (first|exact (Kd.C_below HR0_0.out HB.out)|(with_reducible refine Kd.C_alloc ?_ _)|(with_reducible refine Kd.C_drewN ?_ _)|(with_reducible refine Kd.C_drew ?_)));(case side2=>exact HC0_0.out);(case side3=>repeat (first|exact (Kd.C_below HR0_1.out HB.out)|(with_reducible refine Kd.C_alloc ?_ _)|(with_reducible refine Kd.C_drewN ?_ _)|(with_reducible refine Kd.C_drew ?_)));(case side4=>exact HC0_1.out);(case side5=>repeat (first|exact (Kd.C_below HR0_2.out HB.out)|(with_reducible refine Kd.C_alloc ?_ _)|(with_reducible refine Kd.C_drewN ?_ _)|(with_reducible refine Kd.C_drew ?_)));(case side6=>exact HC0_2.out);(case side7=>repeat (first|exact (Kd.C_below HR0_3.out HB.out)|(with_reducible refine Kd.C_alloc ?_ _)|(with_reducible refine Kd.C_drewN ?_ _)|(with_reducible refine Kd.C_drew ?_)));(case side8=>exact HC0_3.out);(case side9=>repeat (first|exact (Kd.C_below HR0_4.out HB.out)|(with_reducible refine Kd.C_alloc ?_ _)|(with_reducible refine Kd.C_drewN ?_ _)|(with_reducible refine Kd.C_drew ?_)));(case side10=>exact HC0_4.out);rintro e w11 ⟨rfl,hb⟩;refine ⟨_,rfl,?_⟩;have n0_:=Ak (blk_below (g:=gb244) (o:=.cells #[.slice A0_0 l0_0.length c0_0,.slice A0_1 l0_1.length c0_1,.slice A0_2 l0_2.length c0_2,.slice A0_3 l0_3.length c0_3,.slice A0_4 l0_4.length c0_4] 26 (0,0)) (by (with_reducible repeat (first|refine blk_drewN ?_ _|refine blk_drew ?_|refine blk_alloc ?_ _));exact BK244.out) hb);have n1_:=Ak (blk_below (g:=gb245) (o:=.cells #[.slice none 0 0,.slice none 0 0,.slice none 0 0,.slice none 0 0,.slice none 0 0] 26 (0,0)) (by (with_reducible repeat (first|refine blk_drewN ?_ _|refine blk_drew ?_|refine blk_alloc ?_ _));exact BK245.out) hb);have n2_:=Ak (below_step (by repeat (first|(with_reducible first|exact HB.out|apply below_alloc|apply pw_below_drewN|apply below_drew1|refine below_set ?_ GE244.out|refine below_set ?_ GE245.out)|exact HB.out)) hb);clear BK244;clear BK245;clear HB;have BK244:=n0_;have BK245:=n1_;have HB:=n2_;clear n0_ n1_ n2_;(try clear hb);(try clear hb2);(try clear hk);(try clear hi);have hcz12_0:w11.cell? ⟨gb244,0,none⟩=some (.slice A0_0 l0_0.length c0_0):=(blk_cell BK244.out 0).trans rfl;have hcz12_1:w11.cell? ⟨gb244,1,none⟩=some (.slice A0_1 l0_1.length c0_1):=(blk_cell BK244.out 1).trans rfl;have hcz12_2:w11.cell? ⟨gb244,2,none⟩=some (.slice A0_2 l0_2.length c0_2):=(blk_cell BK244.out 2).trans rfl;have hcz12_3:w11.cell? ⟨gb244,3,none⟩=some (.slice A0_3 l0_3.length c0_3):=(blk_cell BK244.out 3).trans rfl;have hcz12_4:w11.cell? ⟨gb244,4,none⟩=some (.slice A0_4 l0_4.length c0_4):=(blk_cell BK244.out 4).trans rfl;have hfz12_0:=blk_frozen BK244.out 0;have hfz12_1:=blk_frozen BK244.out 1;have hfz12_2:=blk_frozen BK244.out 2;have hfz12_3:=blk_frozen BK244.out 3;have hfz12_4:=blk_frozen BK244.out 4)|((with_reducible refine gate_callee (f:=50) rfl ?_);refine goesL_ (some 9) rfl rfl Try.func50 (by kernel_rfl) rfl #[.agg #[.slice A0_0 l0_0.length c0_0,.slice A0_1 l0_1.length c0_1,.slice A0_2 l0_2.length c0_2,.slice A0_3 l0_3.length c0_3,.slice A0_4 l0_4.length c0_4]] rfl (by (try simp only [List.map_toArray,List.map_cons,List.map_nil]);first|done|rfl|(simp only [List.length_drop,List.length_take];rfl)) ?_;(with_reducible refine (spec_l5Copy.calls _ _ l0_0 _ _ l0_1 _ _ l0_2 _ _ l0_3 _ _ l0_4 t247 t250 t253 t256 t259 _ ?side1 ?side2 ?side3 ?side4 ?side5 ?side6 ?side7 ?side8 ?side9 ?side10 A4.out).mono ?_);(case side1=>repeat (first|exact (Kd.C_below HR0_0.out HB.out)|(with_reducible refine Kd.C_alloc ?_ _)|(with_reducible refine Kd.C_drewN ?_ _)|(with_reducible refine Kd.C_drew ?_)));(case side2=>exact HC0_0.out);(case side3=>repeat (first|exact (Kd.C_below HR0_1.out HB.out)|(with_reducible refine Kd.C_alloc ?_ _)|(with_reducible refine Kd.C_drewN ?_ _)|(with_reducible refine Kd.C_drew ?_)));(case side4=>exact HC0_1.out);(case side5=>repeat (first|exact (Kd.C_below HR0_2.out HB.out)|(with_reducible refine Kd.C_alloc ?_ _)|(with_reducible refine Kd.C_drewN ?_ _)|(with_reducible refine Kd.C_drew ?_)));(case side6=>exact HC0_2.out);(case side7=>repeat (first|exact (Kd.C_below HR0_3.out HB.out)|(with_reducible refine Kd.C_alloc ?_ _)|(with_reducible refine Kd.C_drewN ?_ _)|(with_reducible refine Kd.C_drew ?_)));(case side8=>exact HC0_3.out);(case side9=>repeat (first|exact (Kd.C_below HR0_4.out HB.out)|(with_reducible refine Kd.C_alloc ?_ _)|(with_reducible refine Kd.C_drewN ?_ _)|(with_reducible refine Kd.C_drew ?_)));(case side10=>exact HC0_4.out);rintro e w13 ⟨v248,v251,v254,v257,v260,rfl,ho0,ho1,ho2,ho3,ho4,hb⟩;refine ⟨_,rfl,?_⟩;have n0_:=Ak (Kd.R_lower ho0 (below_size (by repeat (first|(with_reducible first|exact HB.out|apply below_alloc|apply pw_below_drewN|apply below_drew1|refine below_set ?_ GE244.out|refine below_set ?_ GE245.out)|exact HB.out))));have n1_:=Ak (Kd.R_lower ho1 (below_size (by repeat (first|(with_reducible first|exact HB.out|apply below_alloc|apply pw_below_drewN|apply below_drew1|refine below_set ?_ GE244.out|refine below_set ?_ GE245.out)|exact HB.out))));have n2_:=Ak (Kd.R_lower ho2 (below_size (by repeat (first|(with_reducible first|exact HB.out|apply below_alloc|apply pw_below_drewN|apply below_drew1|refine below_set ?_ GE244.out|refine below_set ?_ GE245.out)|exact HB.out))));have n3_:=Ak (Kd.R_lower ho3 (below_size (by repeat (first|(with_reducible first|exact HB.out|apply below_alloc|apply pw_below_drewN|apply below_drew1|refine below_set ?_ GE244.out|refine below_set ?_ GE245.out)|exact HB.out))));have n4_:=Ak (Kd.R_lower ho4 (below_size (by repeat (first|(with_reducible first|exact HB.out|apply below_alloc|apply pw_below_drewN|apply below_drew1|refine below_set ?_ GE244.out|refine below_set ?_ GE245.out)|exact HB.out))));have n5_:=Ak (blk_below (g:=gb244) (o:=.cells #[.slice A0_0 l0_0.length c0_0,.slice A0_1 l0_1.length c0_1,.slice A0_2 l0_2.length c0_2,.slice A0_3 l0_3.length c0_3,.slice A0_4 l0_4.length c0_4] 26 (0,0)) (by (with_reducible repeat (first|refine blk_drewN ?_ _|refine blk_drew ?_|refine blk_alloc ?_ _));exact BK244.out) hb);have n6_:=Ak (blk_below (g:=gb245) (o:=.cells #[.slice none 0 0,.slice none 0 0,.slice none 0 0,.slice none 0 0,.slice none 0 0] 26 (0,0)) (by (with_reducible repeat (first|refine blk_drewN ?_ _|refine blk_drew ?_|refine blk_alloc ?_ _));exact BK245.out) hb);have n7_:=Ak (below_step (by repeat (first|(with_reducible first|exact HB.out|apply below_alloc|apply pw_below_drewN|apply below_drew1|refine below_set ?_ GE244.out|refine below_set ?_ GE245.out)|exact HB.out)) hb);clear BK244;clear BK245;clear HB;have HO249:=n0_;have HO252:=n1_;have HO255:=n2_;have HO258:=n3_;have HO261:=n4_;have BK244:=n5_;have BK245:=n6_;have HB:=n7_;clear n0_ n1_ n2_ n3_ n4_ n5_ n6_ n7_;(try clear hb);(try clear hb2);(try clear hk);(try clear hi);(try clear ho0);(try clear ho1);(try clear ho2);(try clear ho3);(try clear ho4))|((with_reducible refine gate_dst (N:=3) rfl ?_);refine box_event ?hg (N:=3) ?hd (cs:=#[.slice none 0 0,.slice none 0 0,.slice none 0 0,.slice none 0 0,.slice none 0 0]) (t:=26) ?hr ?_;(case hd=>rfl);(case hg=>rfl);(case hr=>first|(go_simp;done)|(go_simp;rfl));intro gb262 hg w14 hbox hb;have n0_:=Ak (Kd.R_below (by (with_reducible repeat (first|apply Kd.R_alloc|apply Kd.R_drewN|apply Kd.R_drew));exact HO249.out) hb);have n1_:=Ak (Kd.R_below (by (with_reducible repeat (first|apply Kd.R_alloc|apply Kd.R_drewN|apply Kd.R_drew));exact HO252.out) hb);have n2_:=Ak (Kd.R_below (by (with_reducible repeat (first|apply Kd.R_alloc|apply Kd.R_drewN|apply Kd.R_drew));exact HO255.out) hb);have n3_:=Ak (Kd.R_below (by (with_reducible repeat (first|apply Kd.R_alloc|apply Kd.R_drewN|apply Kd.R_drew));exact HO258.out) hb);have n4_:=Ak (Kd.R_below (by (with_reducible repeat (first|apply Kd.R_alloc|apply Kd.R_drewN|apply Kd.R_drew));exact HO261.out) hb);have n5_:=Ak (blk_below (g:=gb244) (o:=.cells #[.slice A0_0 l0_0.length c0_0,.slice A0_1 l0_1.length c0_1,.slice A0_2 l0_2.length c0_2,.slice A0_3 l0_3.length c0_3,.slice A0_4 l0_4.length c0_4] 26 (0,0)) (by (with_reducible repeat (first|refine blk_drewN ?_ _|refine blk_drew ?_|refine blk_alloc ?_ _));exact BK244.out) hb);have n6_:=Ak (blk_below (g:=gb245) (o:=.cells #[.slice none 0 0,.slice none 0 0,.slice none 0 0,.slice none 0 0,.slice none 0 0] 26 (0,0)) (by (with_reducible repeat (first|refine blk_drewN ?_ _|refine blk_drew ?_|refine blk_alloc ?_ _));exact BK245.out) hb);have n7_:=Ak (below_step (by repeat (first|(with_reducible first|exact HB.out|apply below_alloc|apply pw_below_drewN|apply below_drew1|refine below_set ?_ GE244.out|refine below_set ?_ GE245.out)|exact HB.out)) hb);have n8_:=Ak (hbox);have n9_:=Ak ((by rw [hg];exact (below_size (by repeat (first|(with_reducible first|exact HB.out|apply below_alloc|apply pw_below_drewN|apply below_drew1|refine below_set ?_ GE244.out|refine below_set ?_ GE245.out)|exact HB.out))):w.heap.size≤gb262));have n10_:=Ak ((by rw [hg];exact (below_size (by repeat (first|(with_reducible first|exact HB.out|apply below_alloc|apply pw_below_drewN|apply below_drew1|refine below_set ?_ GE244.out|refine below_set ?_ GE245.out)|exact HB.out))):w.heap.size≤gb262));have n11_:=Ak ((by rw [hg];exact Nat.ne_of_lt (blk_lt (g:=gb244) (o:=.cells #[.slice A0_0 l0_0.length c0_0,.slice A0_1 l0_1.length c0_1,.slice A0_2 l0_2.length c0_2,.slice A0_3 l0_3.length c0_3,.slice A0_4 l0_4.length c0_4] 26 (0,0)) (by (with_reducible repeat (first|refine blk_drewN ?_ _|refine blk_drew ?_|refine blk_alloc ?_ _));exact BK244.out)):gb244 ≠ gb262));have n12_:=Ak ((by rw [hg];exact Nat.ne_of_gt (blk_lt (g:=gb244) (o:=.cells #[.slice A0_0 l0_0.length c0_0,.slice A0_1 l0_1.length c0_1,.slice A0_2 l0_2.length c0_2,.slice A0_3 l0_3.length c0_3,.slice A0_4 l0_4.length c0_4] 26 (0,0)) (by (with_reducible repeat (first|refine blk_drewN ?_ _|refine blk_drew ?_|refine blk_alloc ?_ _));exact BK244.out)):gb262 ≠ gb244));have n13_:=Ak ((by rw [hg];exact Nat.ne_of_lt (blk_lt (g:=gb245) (o:=.cells #[.slice none 0 0,.slice none 0 0,.slice none 0 0,.slice none 0 0,.slice none 0 0] 26 (0,0)) (by (with_reducible repeat (first|refine blk_drewN ?_ _|refine blk_drew ?_|refine blk_alloc ?_ _));exact BK245.out)):gb245 ≠ gb262));have n14_:=Ak ((by rw [hg];exact Nat.ne_of_gt (blk_lt (g:=gb245) (o:=.cells #[.slice none 0 0,.slice none 0 0,.slice none 0 0,.slice none 0 0,.slice none 0 0] 26 (0,0)) (by (with_reducible repeat (first|refine blk_drewN ?_ _|refine blk_drew ?_|refine blk_alloc ?_ _));exact BK245.out)):gb262 ≠ gb245));clear HO249;clear HO252;clear HO255;clear HO258;clear HO261;clear BK244;clear BK245;clear HB;have HO249:=n0_;have HO252:=n1_;have HO255:=n2_;have HO258:=n3_;have HO261:=n4_;have BK244:=n5_;have BK245:=n6_;have HB:=n7_;have BK262:=n8_;have GW262:=n9_;have GE262:=n10_;have NB244_262:=n11_;have NB262_244:=n12_;have NB245_262:=n13_;have NB262_245:=n14_;clear n0_ n1_ n2_ n3_ n4_ n5_ n6_ n7_ n8_ n9_ n10_ n11_ n12_ n13_ n14_;clear hb hbox hg;obtain ⟨Ao15,co15,eo15⟩:=Kd.R_slice HO249.out;subst eo15;have hnb16:=NB262_244.out;have hnc16:=NB244_262.out;have hnb17:=NB262_245.out;have hnc17:=NB245_262.out;have hcz18_0:w14.cell? ⟨gb262,0,none⟩=some (.slice none 0 0):=(blk_cell BK262.out 0).trans rfl;have hcz18_1:w14.cell? ⟨gb262,1,none⟩=some (.slice none 0 0):=(blk_cell BK262.out 1).trans rfl;have hcz18_2:w14.cell? ⟨gb262,2,none⟩=some (.slice none 0 0):=(blk_cell BK262.out 2).trans rfl;have hcz18_3:w14.cell? ⟨gb262,3,none⟩=some (.slice none 0 0):=(blk_cell BK262.out 3).trans rfl;have hcz18_4:w14.cell? ⟨gb262,4,none⟩=some (.slice none 0 0):=(blk_cell BK262.out 4).trans rfl;have hfz18_0:=blk_frozen BK262.out 0;have hfz18_1:=blk_frozen BK262.out 1;have hfz18_2:=blk_frozen BK262.out 2;have hfz18_3:=blk_frozen BK262.out 3;have hfz18_4:=blk_frozen BK262.out 4;obtain ⟨Ao19,co19,eo19⟩:=Kd.R_slice HO252.out;subst eo19;obtain ⟨Ao20,co20,eo20⟩:=Kd.R_slice HO255.out;subst eo20;obtain ⟨Ao21,co21,eo21⟩:=Kd.R_slice HO258.out;subst eo21;obtain ⟨Ao22,co22,eo22⟩:=Kd.R_slice HO261.out;subst eo22)|((with_reducible refine gate_dst (N:=10) rfl ?_);refine Kd.R_lit Kd.string _ 9 ?hg (N:=10) ?hd (xs:=([]:List ByteArray)) (inner:=[]) (ok:=fun _=>True) (okp:=fun _=>True) ?hr ?hp (fun _ hk=>hk) trivial (Below.refl _ _) (Nat.le_refl _) (by simp) ?_;(case hd=>rfl);(case hg=>rfl);(case hr=>first|(go_simp;done)|(go_simp;rfl));(case hp=>exact (Reps.none _ _));intro v264 w23 ho24 hb hg_ hnew_;clear hg_ hnew_;(first|rw [← Ny263.out] at ho24|(simp only [Int.reduceToNat] at ho24;rw [← Ny263.out] at ho24));have n0_:=Ak (Kd.R_elder' (by (with_reducible repeat (first|apply Kd.R_alloc|apply Kd.R_drewN|apply Kd.R_drew));exact (Kd.R_mono (Kd.R_far (p:=⟨gb262,4,none⟩) (Kd.R_far (p:=⟨gb262,3,none⟩) (Kd.R_far (p:=⟨gb262,2,none⟩) (Kd.R_far (p:=⟨gb262,1,none⟩) (Kd.R_far (p:=⟨gb262,0,none⟩) (Kd.R_types HO249.out BK262.out (by decide)) (fun _ hk=>hk.2) (.slice Ao15 t247.length co15)) (fun _ hk=>hk.2) (.slice Ao19 t250.length co19)) (fun _ hk=>hk.2) (.slice Ao20 t253.length co20)) (fun _ hk=>hk.2) (.slice Ao21 t256.length co21)) (fun _ hk=>hk.2) (.slice Ao22 t259.length co22)) (fun _ h_=>h_.1))) (Kd.R_base ho24) hb);have n1_:=Ak (Kd.R_elder' (by (with_reducible repeat (first|apply Kd.R_alloc|apply Kd.R_drewN|apply Kd.R_drew));exact (Kd.R_mono (Kd.R_far (p:=⟨gb262,4,none⟩) (Kd.R_far (p:=⟨gb262,3,none⟩) (Kd.R_far (p:=⟨gb262,2,none⟩) (Kd.R_far (p:=⟨gb262,1,none⟩) (Kd.R_far (p:=⟨gb262,0,none⟩) (Kd.R_types HO252.out BK262.out (by decide)) (fun _ hk=>hk.2) (.slice Ao15 t247.length co15)) (fun _ hk=>hk.2) (.slice Ao19 t250.length co19)) (fun _ hk=>hk.2) (.slice Ao20 t253.length co20)) (fun _ hk=>hk.2) (.slice Ao21 t256.length co21)) (fun _ hk=>hk.2) (.slice Ao22 t259.length co22)) (fun _ h_=>h_.1))) (Kd.R_base ho24) hb);have n2_:=Ak (Kd.R_below (by (with_reducible repeat (first|apply Kd.R_alloc|apply Kd.R_drewN|apply Kd.R_drew));exact (Kd.R_mono (Kd.R_far (p:=⟨gb262,4,none⟩) (Kd.R_far (p:=⟨gb262,3,none⟩) (Kd.R_far (p:=⟨gb262,2,none⟩) (Kd.R_far (p:=⟨gb262,1,none⟩) (Kd.R_far (p:=⟨gb262,0,none⟩) (Kd.R_types HO255.out BK262.out (by decide)) (fun _ hk=>hk.2) (.slice Ao15 t247.length co15)) (fun _ hk=>hk.2) (.slice Ao19 t250.length co19)) (fun _ hk=>hk.2) (.slice Ao20 t253.length co20)) (fun _ hk=>hk.2) (.slice Ao21 t256.length co21)) (fun _ hk=>hk.2) (.slice Ao22 t259.length co22)) (fun _ h_=>h_.1))) hb);have n3_:=Ak (Kd.R_below (by (with_reducible repeat (first|apply Kd.R_alloc|apply Kd.R_drewN|apply Kd.R_drew));exact (Kd.R_mono (Kd.R_far (p:=⟨gb262,4,none⟩) (Kd.R_far (p:=⟨gb262,3,none⟩) (Kd.R_far (p:=⟨gb262,2,none⟩) (Kd.R_far (p:=⟨gb262,1,none⟩) (Kd.R_far (p:=⟨gb262,0,none⟩) (Kd.R_types HO258.out BK262.out (by decide)) (fun _ hk=>hk.2) (.slice Ao15 t247.length co15)) (fun _ hk=>hk.2) (.slice Ao19 t250.length co19)) (fun _ hk=>hk.2) (.slice Ao20 t253.length co20)) (fun _ hk=>hk.2) (.slice Ao21 t256.length co21)) (fun _ hk=>hk.2) (.slice Ao22 t259.length co22)) (fun _ h_=>h_.1))) hb);have n4_:=Ak (Kd.R_below (by (with_reducible repeat (first|apply Kd.R_alloc|apply Kd.R_drewN|apply Kd.R_drew));exact (Kd.R_mono (Kd.R_far (p:=⟨gb262,4,none⟩) (Kd.R_far (p:=⟨gb262,3,none⟩) (Kd.R_far (p:=⟨gb262,2,none⟩) (Kd.R_far (p:=⟨gb262,1,none⟩) (Kd.R_far (p:=⟨gb262,0,none⟩) (Kd.R_types HO261.out BK262.out (by decide)) (fun _ hk=>hk.2) (.slice Ao15 t247.length co15)) (fun _ hk=>hk.2) (.slice Ao19 t250.length co19)) (fun _ hk=>hk.2) (.slice Ao20 t253.length co20)) (fun _ hk=>hk.2) (.slice Ao21 t256.length co21)) (fun _ hk=>hk.2) (.slice Ao22 t259.length co22)) (fun _ h_=>h_.1))) hb);have n5_:=Ak (Kd.R_lower (Kd.R_new' (Kd.R_new' ho24 (Kd.R_lt (by (with_reducible repeat (first|apply Kd.R_alloc|apply Kd.R_drewN|apply Kd.R_drew));exact (Kd.R_mono (Kd.R_far (p:=⟨gb262,4,none⟩) (Kd.R_far (p:=⟨gb262,3,none⟩) (Kd.R_far (p:=⟨gb262,2,none⟩) (Kd.R_far (p:=⟨gb262,1,none⟩) (Kd.R_far (p:=⟨gb262,0,none⟩) (Kd.R_types HO249.out BK262.out (by decide)) (fun _ hk=>hk.2) (.slice Ao15 t247.length co15)) (fun _ hk=>hk.2) (.slice Ao19 t250.length co19)) (fun _ hk=>hk.2) (.slice Ao20 t253.length co20)) (fun _ hk=>hk.2) (.slice Ao21 t256.length co21)) (fun _ hk=>hk.2) (.slice Ao22 t259.length co22)) (fun _ h_=>h_.1))))) (Kd.R_lt (by (with_reducible repeat (first|apply Kd.R_alloc|apply Kd.R_drewN|apply Kd.R_drew));exact (Kd.R_mono (Kd.R_far (p:=⟨gb262,4,none⟩) (Kd.R_far (p:=⟨gb262,3,none⟩) (Kd.R_far (p:=⟨gb262,2,none⟩) (Kd.R_far (p:=⟨gb262,1,none⟩) (Kd.R_far (p:=⟨gb262,0,none⟩) (Kd.R_types HO252.out BK262.out (by decide)) (fun _ hk=>hk.2) (.slice Ao15 t247.length co15)) (fun _ hk=>hk.2) (.slice Ao19 t250.length co19)) (fun _ hk=>hk.2) (.slice Ao20 t253.length co20)) (fun _ hk=>hk.2) (.slice Ao21 t256.length co21)) (fun _ hk=>hk.2) (.slice Ao22 t259.length co22)) (fun _ h_=>h_.1))))) (below_size (by repeat (first|(with_reducible first|exact HB.out|apply below_alloc|apply pw_below_drewN|apply below_drew1|refine below_set ?_ GE244.out|refine below_set ?_ GE245.out|refine below_set ?_ GE262.out)|exact HB.out))));have n6_:=Ak (blk_below (g:=gb244) (o:=.cells #[.slice A0_0 l0_0.length c0_0,.slice A0_1 l0_1.length c0_1,.slice A0_2 l0_2.length c0_2,.slice A0_3 l0_3.length c0_3,.slice A0_4 l0_4.length c0_4] 26 (0,0)) (by (with_reducible repeat (first|refine blk_drewN ?_ _|refine blk_drew ?_|refine blk_alloc ?_ _));refine blk_far ?_ NB244_262.out _;(with_reducible repeat (first|refine blk_drewN ?_ _|refine blk_drew ?_|refine blk_alloc ?_ _));refine blk_far ?_ NB244_262.out _;(with_reducible repeat (first|refine blk_drewN ?_ _|refine blk_drew ?_|refine blk_alloc ?_ _));refine blk_far ?_ NB244_262.out _;(with_reducible repeat (first|refine blk_drewN ?_ _|refine blk_drew ?_|refine blk_alloc ?_ _));refine blk_far ?_ NB244_262.out _;(with_reducible repeat (first|refine blk_drewN ?_ _|refine blk_drew ?_|refine blk_alloc ?_ _));refine blk_far ?_ NB244_262.out _;(with_reducible repeat (first|refine blk_drewN ?_ _|refine blk_drew ?_|refine blk_alloc ?_ _));exact BK244.out) hb);have n7_:=Ak (blk_below (g:=gb245) (o:=.cells #[.slice none 0 0,.slice none 0 0,.slice none 0 0,.slice none 0 0,.slice none 0 0] 26 (0,0)) (by (with_reducible repeat (first|refine blk_drewN ?_ _|refine blk_drew ?_|refine blk_alloc ?_ _));refine blk_far ?_ NB245_262.out _;(with_reducible repeat (first|refine blk_drewN ?_ _|refine blk_drew ?_|refine blk_alloc ?_ _));refine blk_far ?_ NB245_262.out _;(with_reducible repeat (first|refine blk_drewN ?_ _|refine blk_drew ?_|refine blk_alloc ?_ _));refine blk_far ?_ NB245_262.out _;(with_reducible repeat (first|refine blk_drewN ?_ _|refine blk_drew ?_|refine blk_alloc ?_ _));refine blk_far ?_ NB245_262.out _;(with_reducible repeat (first|refine blk_drewN ?_ _|refine blk_drew ?_|refine blk_alloc ?_ _));refine blk_far ?_ NB245_262.out _;(with_reducible repeat (first|refine blk_drewN ?_ _|refine blk_drew ?_|refine blk_alloc ?_ _));exact BK245.out) hb);have n8_:=Ak (blk_below (g:=gb262) (o:=.cells #[.slice Ao15 t247.length co15,.slice Ao19 t250.length co19,.slice Ao20 t253.length co20,.slice Ao21 t256.length co21,.slice Ao22 t259.length co22] 26 (0,0)) (by (with_reducible repeat (first|refine blk_drewN ?_ _|refine blk_drew ?_|refine blk_alloc ?_ _));refine blk_put (cs:=#[.slice Ao15 t247.length co15,.slice Ao19 t250.length co19,.slice Ao20 t253.length co20,.slice Ao21 t256.length co21,.slice none 0 0]) ?_ 4 _ rfl;(with_reducible repeat (first|refine blk_drewN ?_ _|refine blk_drew ?_|refine blk_alloc ?_ _));refine blk_put (cs:=#[.slice Ao15 t247.length co15,.slice Ao19 t250.length co19,.slice Ao20 t253.length co20,.slice none 0 0,.slice none 0 0]) ?_ 3 _ rfl;(with_reducible repeat (first|refine blk_drewN ?_ _|refine blk_drew ?_|refine blk_alloc ?_ _));refine blk_put (cs:=#[.slice Ao15 t247.length co15,.slice Ao19 t250.length co19,.slice none 0 0,.slice none 0 0,.slice none 0 0]) ?_ 2 _ rfl;(with_reducible repeat (first|refine blk_drewN ?_ _|refine blk_drew ?_|refine blk_alloc ?_ _));refine blk_put (cs:=#[.slice Ao15 t247.length co15,.slice none 0 0,.slice none 0 0,.slice none 0 0,.slice none 0 0]) ?_ 1 _ rfl;(with_reducible repeat (first|refine blk_drewN ?_ _|refine blk_drew ?_|refine blk_alloc ?_ _));refine blk_put (cs:=#[.slice none 0 0,.slice none 0 0,.slice none 0 0,.slice none 0 0,.slice none 0 0]) ?_ 0 _ rfl;(with_reducible repeat (first|refine blk_drewN ?_ _|refine blk_drew ?_|refine blk_alloc ?_ _));exact BK262.out) hb);have n9_:=Ak (below_step (by repeat (first|(with_reducible first|exact HB.out|apply below_alloc|apply pw_below_drewN|apply below_drew1|refine below_set ?_ GE244.out|refine below_set ?_ GE245.out|refine below_set ?_ GE262.out)|exact HB.out)) hb);clear HO249;clear HO252;clear HO255;clear HO258;clear HO261;clear BK244;clear BK245;clear BK262;clear HB;have HO249:=n0_;have HO252:=n1_;have HO255:=n2_;have HO258:=n3_;have HO261:=n4_;have HO265:=n5_;have BK244:=n6_;have BK245:=n7_;have BK262:=n8_;have HB:=n9_;clear n0_ n1_ n2_ n3_ n4_ n5_ n6_ n7_ n8_ n9_;clear hb ho24;have hcz25_0:w23.cell? ⟨gb244,0,none⟩=some (.slice A0_0 l0_0.length c0_0):=(blk_cell BK244.out 0).trans rfl;have hcz25_1:w23.cell? ⟨gb244,1,none⟩=some (.slice A0_1 l0_1.length c0_1):=(blk_cell BK244.out 1).trans rfl;have hcz25_2:w23.cell? ⟨gb244,2,none⟩=some (.slice A0_2 l0_2.length c0_2):=(blk_cell BK244.out 2).trans rfl;have hcz25_3:w23.cell? ⟨gb244,3,none⟩=some (.slice A0_3 l0_3.length c0_3):=(blk_cell BK244.out 3).trans rfl;have hcz25_4:w23.cell? ⟨gb244,4,none⟩=some (.slice A0_4 l0_4.length c0_4):=(blk_cell BK244.out 4).trans rfl;have hfz25_0:=blk_frozen BK244.out 0;have hfz25_1:=blk_frozen BK244.out 1;have hfz25_2:=blk_frozen BK244.out 2;have hfz25_3:=blk_frozen BK244.out 3;have hfz25_4:=blk_frozen BK244.out 4)|((with_reducible refine gate_builtin (b:=.append) (xs:=#[.tmp 10,.tmp 12]) rfl ?_);at_builtin;refine Kd.R_append_rows Kd.string (w0:=w) w.heap.size rfl (.tmp 10) (.tmp 12) 23 9 (.string ⟨#[]⟩) 16 rfl Try.underlying23 info9 rfl (by decide) (by omega) v264 y263 l0_0 _ _ _ (fun k_=>some k_ ≠ (.slice Ao15 t247.length co15:Value).ownBlock∧some k_ ≠ (.slice Ao19 t250.length co19:Value).ownBlock) (fun _=>False) rfl rfl ?aO ?aR (fun _ _ h=>h) (fun _ h=>h.elim) ?aF ?aB ?aS ?aL ?_;(case aR=>repeat (first|exact (Kd.C_below HR0_0.out HB.out)|(with_reducible refine Kd.C_alloc ?_ _)|(with_reducible refine Kd.C_drewN ?_ _)|(with_reducible refine Kd.C_drew ?_)));(case aB=>exact (by repeat (first|(with_reducible first|exact HB.out|apply below_alloc|apply pw_below_drewN|apply below_drew1|refine below_set ?_ GE244.out|refine below_set ?_ GE245.out|refine below_set ?_ GE262.out)|exact HB.out)));(case aF=>exact (fun k_ hk=>⟨Kd.fresh' (Kd.R_lt (by (with_reducible repeat (first|apply Kd.R_alloc|apply Kd.R_drewN|apply Kd.R_drew));exact HO249.out)) k_ hk,Kd.fresh' (Kd.R_lt (by (with_reducible repeat (first|apply Kd.R_alloc|apply Kd.R_drewN|apply Kd.R_drew));exact HO252.out)) k_ hk⟩));(case aO=>exact (by (with_reducible repeat (first|apply Kd.R_alloc|apply Kd.R_drewN|apply Kd.R_drew));exact Kd.R_mono HO265.out (fun _ hk=>⟨hk.1.2,hk.2⟩)));(case aS=>exact (below_size (by repeat (first|(with_reducible first|exact HB.out|apply below_alloc|apply pw_below_drewN|apply below_drew1|refine below_set ?_ GE244.out|refine below_set ?_ GE245.out|refine below_set ?_ GE262.out)|exact HB.out))));(case aL=>have:=LMc5.out;omega);intro v267 w26 ho hb hg hat;rw [← Ny266.out] at ho;have n0_:=Ak (blk_grown (g:=gb244) (o:=.cells #[.slice A0_0 l0_0.length c0_0,.slice A0_1 l0_1.length c0_1,.slice A0_2 l0_2.length c0_2,.slice A0_3 l0_3.length c0_3,.slice A0_4 l0_4.length c0_4] 26 (0,0)) (by (with_reducible repeat (first|refine blk_drewN ?_ _|refine blk_drew ?_|refine blk_alloc ?_ _));exact BK244.out) hg (Kd.R_ne HO265.out BK244.out (by decide)));have n1_:=Ak (blk_grown (g:=gb245) (o:=.cells #[.slice none 0 0,.slice none 0 0,.slice none 0 0,.slice none 0 0,.slice none 0 0] 26 (0,0)) (by (with_reducible repeat (first|refine blk_drewN ?_ _|refine blk_drew ?_|refine blk_alloc ?_ _));exact BK245.out) hg (Kd.R_ne HO265.out BK245.out (by decide)));have n2_:=Ak (Kd.R_after (ok:=(fun k_=>some k_ ≠ (.slice Ao19 t250.length co19:Value).ownBlock)) (by (with_reducible repeat (first|apply Kd.R_alloc|apply Kd.R_drewN|apply Kd.R_drew));exact HO249.out) hg hat);have n3_:=Ak (Kd.R_after (ok:=(fun k_=>some k_ ≠ (.slice Ao15 t247.length co15:Value).ownBlock)) (by (with_reducible repeat (first|apply Kd.R_alloc|apply Kd.R_drewN|apply Kd.R_drew));exact HO252.out) hg hat);have n4_:=Ak (Kd.R_over' (by (with_reducible repeat (first|apply Kd.R_alloc|apply Kd.R_drewN|apply Kd.R_drew));exact HO255.out) (Kd.R_typed (by (with_reducible repeat (first|apply Kd.R_alloc|apply Kd.R_drewN|apply Kd.R_drew));exact HO265.out)) (by decide) hg);have n5_:=Ak (Kd.R_over' (by (with_reducible repeat (first|apply Kd.R_alloc|apply Kd.R_drewN|apply Kd.R_drew));exact HO258.out) (Kd.R_typed (by (with_reducible repeat (first|apply Kd.R_alloc|apply Kd.R_drewN|apply Kd.R_drew));exact HO265.out)) (by decide) hg);have n6_:=Ak (Kd.R_over' (by (with_reducible repeat (first|apply Kd.R_alloc|apply Kd.R_drewN|apply Kd.R_drew));exact HO261.out) (Kd.R_typed (by (with_reducible repeat (first|apply Kd.R_alloc|apply Kd.R_drewN|apply Kd.R_drew));exact HO265.out)) (by decide) hg);have n7_:=Ak (blk_grown (g:=gb262) (o:=.cells #[.slice Ao15 t247.length co15,.slice Ao19 t250.length co19,.slice Ao20 t253.length co20,.slice Ao21 t256.length co21,.slice Ao22 t259.length co22] 26 (0,0)) (by (with_reducible repeat (first|refine blk_drewN ?_ _|refine blk_drew ?_|refine blk_alloc ?_ _));exact BK262.out) hg (Kd.R_ne HO265.out BK262.out (by decide)));have n8_:=Ak (hb);have n9_:=Ak (ho);clear BK244;clear BK245;clear HO249;clear HO252;clear HO255;clear HO258;clear HO261;clear BK262;clear HB;clear HO265;have BK244:=n0_;have BK245:=n1_;have HO249:=n2_;have HO252:=n3_;have HO255:=n4_;have HO258:=n5_;have HO261:=n6_;have BK262:=n7_;have HB:=n8_;have HO268:=n9_;clear n0_ n1_ n2_ n3_ n4_ n5_ n6_ n7_ n8_ n9_;clear ho hb hg hat;obtain ⟨Ao27,co27,eo27⟩:=Kd.R_slice HO268.out;subst eo27;have hcz28_0:w26.cell? ⟨gb262,0,none⟩=some (.slice Ao15 t247.length co15):=(blk_cell BK262.out 0).trans rfl;have hcz28_1:w26.cell? ⟨gb262,1,none⟩=some (.slice Ao19 t250.length co19):=(blk_cell BK262.out 1).trans rfl;have hcz28_2:w26.cell? ⟨gb262,2,none⟩=some (.slice Ao20 t253.length co20):=(blk_cell BK262.out 2).trans rfl;have hcz28_3:w26.cell? ⟨gb262,3,none⟩=some (.slice Ao21 t256.length co21):=(blk_cell BK262.out 3).trans rfl;have hcz28_4:w26.cell? ⟨gb262,4,none⟩=some (.slice Ao22 t259.length co22):=(blk_cell BK262.out 4).trans rfl;have hfz28_0:=blk_frozen BK262.out 0;have hfz28_1:=blk_frozen BK262.out 1;have hfz28_2:=blk_frozen BK262.out 2;have hfz28_3:=blk_frozen BK262.out 3;have hfz28_4:=blk_frozen BK262.out 4)|((with_reducible refine gate_dst (N:=15) rfl ?_);refine Kd.R_lit (Kd.int .i64) _ 3 ?hg (N:=15) ?hd (xs:=([]:List Int)) (inner:=[]) (ok:=fun _=>True) (okp:=fun _=>True) ?hr ?hp (fun _ hk=>hk) trivial (Below.refl _ _) (Nat.le_refl _) (by simp) ?_;(case hd=>rfl);(case hg=>rfl);(case hr=>first|(go_simp;done)|(go_simp;rfl));(case hp=>exact (Reps.none _ _));intro v270 w29 ho30 hb hg_ hnew_;clear hg_ hnew_;(first|rw [← Ny269.out] at ho30|(simp only [Int.reduceToNat] at ho30;rw [← Ny269.out] at ho30));have n0_:=Ak (Kd.R_below (by (with_reducible repeat (first|apply Kd.R_alloc|apply Kd.R_drewN|apply Kd.R_drew));exact (Kd.R_mono (Kd.R_far (p:=⟨gb262,1,none⟩) (Kd.R_types HO249.out BK262.out (by decide)) (fun _ hk=>hk.2) (.slice Ao27 y266.length co27)) (fun _ h_=>h_.1))) hb);have n1_:=Ak (Kd.R_below (by (with_reducible repeat (first|apply Kd.R_alloc|apply Kd.R_drewN|apply Kd.R_drew));exact (Kd.R_mono (Kd.R_far (p:=⟨gb262,1,none⟩) (Kd.R_types HO252.out BK262.out (by decide)) (fun _ hk=>hk.2) (.slice Ao27 y266.length co27)) (fun _ h_=>h_.1))) hb);have n2_:=Ak (Kd.R_elder' (by (with_reducible repeat (first|apply Kd.R_alloc|apply Kd.R_drewN|apply Kd.R_drew));exact (Kd.R_mono (Kd.R_far (p:=⟨gb262,1,none⟩) (Kd.R_types HO255.out BK262.out (by decide)) (fun _ hk=>hk.2) (.slice Ao27 y266.length co27)) (fun _ h_=>h_.1))) (Kd.R_base ho30) hb);have n3_:=Ak (Kd.R_elder' (by (with_reducible repeat (first|apply Kd.R_alloc|apply Kd.R_drewN|apply Kd.R_drew));exact (Kd.R_mono (Kd.R_far (p:=⟨gb262,1,none⟩) (Kd.R_types HO258.out BK262.out (by decide)) (fun _ hk=>hk.2) (.slice Ao27 y266.length co27)) (fun _ h_=>h_.1))) (Kd.R_base ho30) hb);have n4_:=Ak (Kd.R_elder' (by (with_reducible repeat (first|apply Kd.R_alloc|apply Kd.R_drewN|apply Kd.R_drew));exact (Kd.R_mono (Kd.R_far (p:=⟨gb262,1,none⟩) (Kd.R_types HO261.out BK262.out (by decide)) (fun _ hk=>hk.2) (.slice Ao27 y266.length co27)) (fun _ h_=>h_.1))) (Kd.R_base ho30) hb);have n5_:=Ak (Kd.R_below (by (with_reducible repeat (first|apply Kd.R_alloc|apply Kd.R_drewN|apply Kd.R_drew));exact (Kd.R_mono (Kd.R_far (p:=⟨gb262,1,none⟩) (Kd.R_types HO268.out BK262.out (by decide)) (fun _ hk=>hk.2) (.slice Ao27 y266.length co27)) (fun _ h_=>h_.1))) hb);have n6_:=Ak (Kd.R_lower (Kd.R_new' (Kd.R_new' (Kd.R_new' ho30 (Kd.R_lt (by (with_reducible repeat (first|apply Kd.R_alloc|apply Kd.R_drewN|apply Kd.R_drew));exact (Kd.R_mono (Kd.R_far (p:=⟨gb262,1,none⟩) (Kd.R_types HO255.out BK262.out (by decide)) (fun _ hk=>hk.2) (.slice Ao27 y266.length co27)) (fun _ h_=>h_.1))))) (Kd.R_lt (by (with_reducible repeat (first|apply Kd.R_alloc|apply Kd.R_drewN|apply Kd.R_drew));exact (Kd.R_mono (Kd.R_far (p:=⟨gb262,1,none⟩) (Kd.R_types HO258.out BK262.out (by decide)) (fun _ hk=>hk.2) (.slice Ao27 y266.length co27)) (fun _ h_=>h_.1))))) (Kd.R_lt (by (with_reducible repeat (first|apply Kd.R_alloc|apply Kd.R_drewN|apply Kd.R_drew));exact (Kd.R_mono (Kd.R_far (p:=⟨gb262,1,none⟩) (Kd.R_types HO261.out BK262.out (by decide)) (fun _ hk=>hk.2) (.slice Ao27 y266.length co27)) (fun _ h_=>h_.1))))) (below_size (by repeat (first|(with_reducible first|exact HB.out|apply below_alloc|apply pw_below_drewN|apply below_drew1|refine below_set ?_ GE244.out|refine below_set ?_ GE245.out|refine below_set ?_ GE262.out)|exact HB.out))));have n7_:=Ak (blk_below (g:=gb244) (o:=.cells #[.slice A0_0 l0_0.length c0_0,.slice A0_1 l0_1.length c0_1,.slice A0_2 l0_2.length c0_2,.slice A0_3 l0_3.length c0_3,.slice A0_4 l0_4.length c0_4] 26 (0,0)) (by (with_reducible repeat (first|refine blk_drewN ?_ _|refine blk_drew ?_|refine blk_alloc ?_ _));refine blk_far ?_ NB244_262.out _;(with_reducible repeat (first|refine blk_drewN ?_ _|refine blk_drew ?_|refine blk_alloc ?_ _));exact BK244.out) hb);have n8_:=Ak (blk_below (g:=gb245) (o:=.cells #[.slice none 0 0,.slice none 0 0,.slice none 0 0,.slice none 0 0,.slice none 0 0] 26 (0,0)) (by (with_reducible repeat (first|refine blk_drewN ?_ _|refine blk_drew ?_|refine blk_alloc ?_ _));refine blk_far ?_ NB245_262.out _;(with_reducible repeat (first|refine blk_drewN ?_ _|refine blk_drew ?_|refine blk_alloc ?_ _));exact BK245.out) hb);have n9_:=Ak (blk_below (g:=gb262) (o:=.cells #[.slice Ao15 t247.length co15,.slice Ao27 y266.length co27,.slice Ao20 t253.length co20,.slice Ao21 t256.length co21,.slice Ao22 t259.length co22] 26 (0,0)) (by (with_reducible repeat (first|refine blk_drewN ?_ _|refine blk_drew ?_|refine blk_alloc ?_ _));refine blk_put (cs:=#[.slice Ao15 t247.length co15,.slice Ao19 t250.length co19,.slice Ao20 t253.length co20,.slice Ao21 t256.length co21,.slice Ao22 t259.length co22]) ?_ 1 _ rfl;(with_reducible repeat (first|refine blk_drewN ?_ _|refine blk_drew ?_|refine blk_alloc ?_ _));exact BK262.out) hb);have n10_:=Ak (below_step (by repeat (first|(with_reducible first|exact HB.out|apply below_alloc|apply pw_below_drewN|apply below_drew1|refine below_set ?_ GE244.out|refine below_set ?_ GE245.out|refine below_set ?_ GE262.out)|exact HB.out)) hb);clear HO249;clear HO252;clear HO255;clear HO258;clear HO261;clear HO268;clear BK244;clear BK245;clear BK262;clear HB;have HO249:=n0_;have HO252:=n1_;have HO255:=n2_;have HO258:=n3_;have HO261:=n4_;have HO268:=n5_;have HO271:=n6_;have BK244:=n7_;have BK245:=n8_;have BK262:=n9_;have HB:=n10_;clear n0_ n1_ n2_ n3_ n4_ n5_ n6_ n7_ n8_ n9_ n10_;clear hb ho30;have hcz31_0:w29.cell? ⟨gb244,0,none⟩=some (.slice A0_0 l0_0.length c0_0):=(blk_cell BK244.out 0).trans rfl;have hcz31_1:w29.cell? ⟨gb244,1,none⟩=some (.slice A0_1 l0_1.length c0_1):=(blk_cell BK244.out 1).trans rfl;have hcz31_2:w29.cell? ⟨gb244,2,none⟩=some (.slice A0_2 l0_2.length c0_2):=(blk_cell BK244.out 2).trans rfl;have hcz31_3:w29.cell? ⟨gb244,3,none⟩=some (.slice A0_3 l0_3.length c0_3):=(blk_cell BK244.out 3).trans rfl;have hcz31_4:w29.cell? ⟨gb244,4,none⟩=some (.slice A0_4 l0_4.length c0_4):=(blk_cell BK244.out 4).trans rfl;have hfz31_0:=blk_frozen BK244.out 0;have hfz31_1:=blk_frozen BK244.out 1;have hfz31_2:=blk_frozen BK244.out 2;have hfz31_3:=blk_frozen BK244.out 3;have hfz31_4:=blk_frozen BK244.out 4)|((with_reducible refine gate_builtin (b:=.append) (xs:=#[.tmp 15,.tmp 17]) rfl ?_);at_builtin;refine Kd.R_append_rows (Kd.int .i64) (w0:=w) w.heap.size rfl (.tmp 15) (.tmp 17) 24 3 (.int .i64 0) 8 rfl Try.underlying24 info3 rfl (by decide) (by omega) v270 y269 l0_2 _ _ _ (fun k_=>some k_ ≠ (.slice Ao20 t253.length co20:Value).ownBlock∧some k_ ≠ (.slice Ao21 t256.length co21:Value).ownBlock∧some k_ ≠ (.slice Ao22 t259.length co22:Value).ownBlock) (fun _=>False) rfl rfl ?aO ?aR (fun _ _ h=>h) (fun _ h=>h.elim) ?aF ?aB ?aS ?aL ?_;(case aR=>repeat (first|exact (Kd.C_below HR0_2.out HB.out)|(with_reducible refine Kd.C_alloc ?_ _)|(with_reducible refine Kd.C_drewN ?_ _)|(with_reducible refine Kd.C_drew ?_)));(case aB=>exact (by repeat (first|(with_reducible first|exact HB.out|apply below_alloc|apply pw_below_drewN|apply below_drew1|refine below_set ?_ GE244.out|refine below_set ?_ GE245.out|refine below_set ?_ GE262.out)|exact HB.out)));(case aF=>exact (fun k_ hk=>⟨Kd.fresh' (Kd.R_lt (by (with_reducible repeat (first|apply Kd.R_alloc|apply Kd.R_drewN|apply Kd.R_drew));exact HO255.out)) k_ hk,Kd.fresh' (Kd.R_lt (by (with_reducible repeat (first|apply Kd.R_alloc|apply Kd.R_drewN|apply Kd.R_drew));exact HO258.out)) k_ hk,Kd.fresh' (Kd.R_lt (by (with_reducible repeat (first|apply Kd.R_alloc|apply Kd.R_drewN|apply Kd.R_drew));exact HO261.out)) k_ hk⟩));(case aO=>exact (by (with_reducible repeat (first|apply Kd.R_alloc|apply Kd.R_drewN|apply Kd.R_drew));exact Kd.R_mono HO271.out (fun _ hk=>⟨hk.1.1.2,⟨hk.1.2,hk.2⟩⟩)));(case aS=>exact (below_size (by repeat (first|(with_reducible first|exact HB.out|apply below_alloc|apply pw_below_drewN|apply below_drew1|refine below_set ?_ GE244.out|refine below_set ?_ GE245.out|refine below_set ?_ GE262.out)|exact HB.out))));(case aL=>have:=LMc6.out;omega);intro v273 w32 ho hb hg hat;rw [← Ny272.out] at ho;have n0_:=Ak (blk_grown (g:=gb244) (o:=.cells #[.slice A0_0 l0_0.length c0_0,.slice A0_1 l0_1.length c0_1,.slice A0_2 l0_2.length c0_2,.slice A0_3 l0_3.length c0_3,.slice A0_4 l0_4.length c0_4] 26 (0,0)) (by (with_reducible repeat (first|refine blk_drewN ?_ _|refine blk_drew ?_|refine blk_alloc ?_ _));exact BK244.out) hg (Kd.R_ne HO271.out BK244.out (by decide)));have n1_:=Ak (blk_grown (g:=gb245) (o:=.cells #[.slice none 0 0,.slice none 0 0,.slice none 0 0,.slice none 0 0,.slice none 0 0] 26 (0,0)) (by (with_reducible repeat (first|refine blk_drewN ?_ _|refine blk_drew ?_|refine blk_alloc ?_ _));exact BK245.out) hg (Kd.R_ne HO271.out BK245.out (by decide)));have n2_:=Ak (Kd.R_over' (by (with_reducible repeat (first|apply Kd.R_alloc|apply Kd.R_drewN|apply Kd.R_drew));exact HO249.out) (Kd.R_typed (by (with_reducible repeat (first|apply Kd.R_alloc|apply Kd.R_drewN|apply Kd.R_drew));exact HO271.out)) (by decide) hg);have n3_:=Ak (Kd.R_over' (by (with_reducible repeat (first|apply Kd.R_alloc|apply Kd.R_drewN|apply Kd.R_drew));exact HO252.out) (Kd.R_typed (by (with_reducible repeat (first|apply Kd.R_alloc|apply Kd.R_drewN|apply Kd.R_drew));exact HO271.out)) (by decide) hg);have n4_:=Ak (Kd.R_after (ok:=(fun k_=>some k_ ≠ (.slice Ao21 t256.length co21:Value).ownBlock∧some k_ ≠ (.slice Ao22 t259.length co22:Value).ownBlock)) (by (with_reducible repeat (first|apply Kd.R_alloc|apply Kd.R_drewN|apply Kd.R_drew));exact HO255.out) hg hat);have n5_:=Ak (Kd.R_after (ok:=(fun k_=>some k_ ≠ (.slice Ao20 t253.length co20:Value).ownBlock∧some k_ ≠ (.slice Ao22 t259.length co22:Value).ownBlock)) (by (with_reducible repeat (first|apply Kd.R_alloc|apply Kd.R_drewN|apply Kd.R_drew));exact HO258.out) hg hat);have n6_:=Ak (Kd.R_after (ok:=(fun k_=>some k_ ≠ (.slice Ao20 t253.length co20:Value).ownBlock∧some k_ ≠ (.slice Ao21 t256.length co21:Value).ownBlock)) (by (with_reducible repeat (first|apply Kd.R_alloc|apply Kd.R_drewN|apply Kd.R_drew));exact HO261.out) hg hat);have n7_:=Ak (blk_grown (g:=gb262) (o:=.cells #[.slice Ao15 t247.length co15,.slice Ao27 y266.length co27,.slice Ao20 t253.length co20,.slice Ao21 t256.length co21,.slice Ao22 t259.length co22] 26 (0,0)) (by (with_reducible repeat (first|refine blk_drewN ?_ _|refine blk_drew ?_|refine blk_alloc ?_ _));exact BK262.out) hg (Kd.R_ne HO271.out BK262.out (by decide)));have n8_:=Ak (Kd.R_over' (by (with_reducible repeat (first|apply Kd.R_alloc|apply Kd.R_drewN|apply Kd.R_drew));exact HO268.out) (Kd.R_typed (by (with_reducible repeat (first|apply Kd.R_alloc|apply Kd.R_drewN|apply Kd.R_drew));exact HO271.out)) (by decide) hg);have n9_:=Ak (hb);have n10_:=Ak (ho);clear BK244;clear BK245;clear HO249;clear HO252;clear HO255;clear HO258;clear HO261;clear BK262;clear HO268;clear HB;clear HO271;have BK244:=n0_;have BK245:=n1_;have HO249:=n2_;have HO252:=n3_;have HO255:=n4_;have HO258:=n5_;have HO261:=n6_;have BK262:=n7_;have HO268:=n8_;have HB:=n9_;have HO274:=n10_;clear n0_ n1_ n2_ n3_ n4_ n5_ n6_ n7_ n8_ n9_ n10_;clear ho hb hg hat;obtain ⟨Ao33,co33,eo33⟩:=Kd.R_slice HO274.out;subst eo33;have hcz34_0:w32.cell? ⟨gb262,0,none⟩=some (.slice Ao15 t247.length co15):=(blk_cell BK262.out 0).trans rfl;have hcz34_1:w32.cell? ⟨gb262,1,none⟩=some (.slice Ao27 y266.length co27):=(blk_cell BK262.out 1).trans rfl;have hcz34_2:w32.cell? ⟨gb262,2,none⟩=some (.slice Ao20 t253.length co20):=(blk_cell BK262.out 2).trans rfl;have hcz34_3:w32.cell? ⟨gb262,3,none⟩=some (.slice Ao21 t256.length co21):=(blk_cell BK262.out 3).trans rfl;have hcz34_4:w32.cell? ⟨gb262,4,none⟩=some (.slice Ao22 t259.length co22):=(blk_cell BK262.out 4).trans rfl;have hfz34_0:=blk_frozen BK262.out 0;have hfz34_1:=blk_frozen BK262.out 1;have hfz34_2:=blk_frozen BK262.out 2;have hfz34_3:=blk_frozen BK262.out 3;have hfz34_4:=blk_frozen BK262.out 4;have hcz35_0:w32.cell? ⟨gb245,0,none⟩=some (.slice none 0 0):=(blk_cell BK245.out 0).trans rfl;have hcz35_1:w32.cell? ⟨gb245,1,none⟩=some (.slice none 0 0):=(blk_cell BK245.out 1).trans rfl;have hcz35_2:w32.cell? ⟨gb245,2,none⟩=some (.slice none 0 0):=(blk_cell BK245.out 2).trans rfl;have hcz35_3:w32.cell? ⟨gb245,3,none⟩=some (.slice none 0 0):=(blk_cell BK245.out 3).trans rfl;have hcz35_4:w32.cell? ⟨gb245,4,none⟩=some (.slice none 0 0):=(blk_cell BK245.out 4).trans rfl;have hfz35_0:=blk_frozen BK245.out 0;have hfz35_1:=blk_frozen BK245.out 1;have hfz35_2:=blk_frozen BK245.out 2;have hfz35_3:=blk_frozen BK245.out 3;have hfz35_4:=blk_frozen BK245.out 4))
    refine bodyPost_ret (results_cell_row rfl _ _ gb245 26 #[.slice Ao15 t247.length co15,.slice Ao27 y266.length co27,.slice Ao20 t253.length co20,.slice Ao33 y272.length co33,.slice Ao22 t259.length co22] (0,0) _ rfl (by (with_reducible repeat (first|refine blk_drewN ?_ _|refine blk_drew ?_|refine blk_alloc ?_ _));refine blk_put (cs:=#[.slice Ao15 t247.length co15,.slice Ao27 y266.length co27,.slice Ao20 t253.length co20,.slice Ao33 y272.length co33,.slice none 0 0]) ?_ 4 _ rfl;(with_reducible repeat (first|refine blk_drewN ?_ _|refine blk_drew ?_|refine blk_alloc ?_ _));refine blk_put (cs:=#[.slice Ao15 t247.length co15,.slice Ao27 y266.length co27,.slice Ao20 t253.length co20,.slice none 0 0,.slice none 0 0]) ?_ 3 _ rfl;(with_reducible repeat (first|refine blk_drewN ?_ _|refine blk_drew ?_|refine blk_alloc ?_ _));refine blk_put (cs:=#[.slice Ao15 t247.length co15,.slice Ao27 y266.length co27,.slice none 0 0,.slice none 0 0,.slice none 0 0]) ?_ 2 _ rfl;(with_reducible repeat (first|refine blk_drewN ?_ _|refine blk_drew ?_|refine blk_alloc ?_ _));refine blk_put (cs:=#[.slice Ao15 t247.length co15,.slice none 0 0,.slice none 0 0,.slice none 0 0,.slice none 0 0]) ?_ 1 _ rfl;(with_reducible repeat (first|refine blk_drewN ?_ _|refine blk_drew ?_|refine blk_alloc ?_ _));refine blk_put (cs:=#[.slice none 0 0,.slice none 0 0,.slice none 0 0,.slice none 0 0,.slice none 0 0]) ?_ 0 _ rfl;(with_reducible repeat (first|refine blk_drewN ?_ _|refine blk_drew ?_|refine blk_alloc ?_ _));refine blk_far ?_ NB245_262.out _;(with_reducible repeat (first|refine blk_drewN ?_ _|refine blk_drew ?_|refine blk_alloc ?_ _));exact BK245.out) Try.underlying26 rfl (by kernel_rfl)) rfl ?_
    exact ⟨_,_,_,_,_,by first|rfl|(simp [errW_none,errW_some] <;> rfl)|(simp [*,errW_none,errW_some] <;> rfl),by (with_reducible repeat (first|apply Kd.R_alloc|apply Kd.R_drewN|apply Kd.R_drew));exact Kd.R_mono (Kd.R_far (p:=⟨gb245,4,none⟩) (Kd.R_far (p:=⟨gb245,3,none⟩) (Kd.R_far (p:=⟨gb245,2,none⟩) (Kd.R_far (p:=⟨gb245,1,none⟩) (Kd.R_far (p:=⟨gb245,0,none⟩) (Kd.R_far (p:=⟨gb262,3,none⟩) (Kd.R_types (Kd.R_types HO249.out BK262.out (by decide)) BK245.out (by decide)) (fun _ hk=>hk.1.2) (.slice Ao33 y272.length co33)) (fun _ hk=>hk.2) (.slice Ao15 t247.length co15)) (fun _ hk=>hk.2) (.slice Ao27 y266.length co27)) (fun _ hk=>hk.2) (.slice Ao20 t253.length co20)) (fun _ hk=>hk.2) (.slice Ao33 y272.length co33)) (fun _ hk=>hk.2) (.slice Ao22 t259.length co22)) (fun _ hk=>hk.1.1.2),by (with_reducible repeat (first|apply Kd.R_alloc|apply Kd.R_drewN|apply Kd.R_drew));exact Kd.R_mono (Kd.R_far (p:=⟨gb245,4,none⟩) (Kd.R_far (p:=⟨gb245,3,none⟩) (Kd.R_far (p:=⟨gb245,2,none⟩) (Kd.R_far (p:=⟨gb245,1,none⟩) (Kd.R_far (p:=⟨gb245,0,none⟩) (Kd.R_far (p:=⟨gb262,3,none⟩) (Kd.R_types (Kd.R_types HO268.out BK262.out (by decide)) BK245.out (by decide)) (fun _ hk=>hk.1.2) (.slice Ao33 y272.length co33)) (fun _ hk=>hk.2) (.slice Ao15 t247.length co15)) (fun _ hk=>hk.2) (.slice Ao27 y266.length co27)) (fun _ hk=>hk.2) (.slice Ao20 t253.length co20)) (fun _ hk=>hk.2) (.slice Ao33 y272.length co33)) (fun _ hk=>hk.2) (.slice Ao22 t259.length co22)) (fun _ hk=>hk.1.1.1),by (with_reducible repeat (first|apply Kd.R_alloc|apply Kd.R_drewN|apply Kd.R_drew));exact Kd.R_mono (Kd.R_far (p:=⟨gb245,4,none⟩) (Kd.R_far (p:=⟨gb245,3,none⟩) (Kd.R_far (p:=⟨gb245,2,none⟩) (Kd.R_far (p:=⟨gb245,1,none⟩) (Kd.R_far (p:=⟨gb245,0,none⟩) (Kd.R_far (p:=⟨gb262,3,none⟩) (Kd.R_types (Kd.R_types HO255.out BK262.out (by decide)) BK245.out (by decide)) (fun _ hk=>hk.1.2) (.slice Ao33 y272.length co33)) (fun _ hk=>hk.2) (.slice Ao15 t247.length co15)) (fun _ hk=>hk.2) (.slice Ao27 y266.length co27)) (fun _ hk=>hk.2) (.slice Ao20 t253.length co20)) (fun _ hk=>hk.2) (.slice Ao33 y272.length co33)) (fun _ hk=>hk.2) (.slice Ao22 t259.length co22)) (fun _ hk=>⟨hk.1.1.2,hk.1.1.1.2⟩),by (with_reducible repeat (first|apply Kd.R_alloc|apply Kd.R_drewN|apply Kd.R_drew));exact Kd.R_mono (Kd.R_far (p:=⟨gb245,4,none⟩) (Kd.R_far (p:=⟨gb245,3,none⟩) (Kd.R_far (p:=⟨gb245,2,none⟩) (Kd.R_far (p:=⟨gb245,1,none⟩) (Kd.R_far (p:=⟨gb245,0,none⟩) (Kd.R_far (p:=⟨gb262,3,none⟩) (Kd.R_types (Kd.R_types HO274.out BK262.out (by decide)) BK245.out (by decide)) (fun _ hk=>hk.1.2) (.slice Ao33 y272.length co33)) (fun _ hk=>hk.2) (.slice Ao15 t247.length co15)) (fun _ hk=>hk.2) (.slice Ao27 y266.length co27)) (fun _ hk=>hk.2) (.slice Ao20 t253.length co20)) (fun _ hk=>hk.2) (.slice Ao33 y272.length co33)) (fun _ hk=>hk.2) (.slice Ao22 t259.length co22)) (fun _ hk=>⟨hk.1.1.1,hk.1.1.2.2⟩),by (with_reducible repeat (first|apply Kd.R_alloc|apply Kd.R_drewN|apply Kd.R_drew));exact Kd.R_mono (Kd.R_far (p:=⟨gb245,4,none⟩) (Kd.R_far (p:=⟨gb245,3,none⟩) (Kd.R_far (p:=⟨gb245,2,none⟩) (Kd.R_far (p:=⟨gb245,1,none⟩) (Kd.R_far (p:=⟨gb245,0,none⟩) (Kd.R_far (p:=⟨gb262,3,none⟩) (Kd.R_types (Kd.R_types HO261.out BK262.out (by decide)) BK245.out (by decide)) (fun _ hk=>hk.1.2) (.slice Ao33 y272.length co33)) (fun _ hk=>hk.2) (.slice Ao15 t247.length co15)) (fun _ hk=>hk.2) (.slice Ao27 y266.length co27)) (fun _ hk=>hk.2) (.slice Ao20 t253.length co20)) (fun _ hk=>hk.2) (.slice Ao33 y272.length co33)) (fun _ hk=>hk.2) (.slice Ao22 t259.length co22)) (fun _ hk=>⟨hk.1.1.1.1,hk.1.1.2⟩),by repeat (first|(with_reducible first|exact HB.out|apply below_alloc|apply pw_below_drewN|apply below_drew1|refine below_set ?_ GE244.out|refine below_set ?_ GE245.out|refine below_set ?_ GE262.out)|exact HB.out)⟩
   ·rw [if_neg c6] at H
    exact absurd H (by simp)
  ·rw [if_neg c5] at H
   exact absurd H (by simp)
 ·replace c3:=Bool.eq_false_iff.mpr c3
  subst c3
  have H1:(some (([]:List ByteArray),([]:List ByteArray),([]:List Int),([]:List Int),([]:List Int)))=some (r1,r2,r3,r4,r5):=by rw [if_neg (show ¬ (false=true) by decide)] at H;exact H
  clear H
  have H:=H1
  clear H1
  simp only [Option.some.injEq,Prod.mk.injEq] at H
  obtain ⟨rfl,rfl,rfl,rfl,rfl⟩:=H
  go_enter Try.func36,Try.ntmps36
  go_wp2_with (first|((with_reducible refine gate_dst (N:=1) rfl ?_);refine box_event ?hg (N:=1) ?hd (cs:=#[.slice A0_0 l0_0.length c0_0,.slice A0_1 l0_1.length c0_1,.slice A0_2 l0_2.length c0_2,.slice A0_3 l0_3.length c0_3,.slice A0_4 l0_4.length c0_4]) (t:=26) ?hr ?_;(case hd=>rfl);(case hg=>rfl);(case hr=>first|(go_simp;done)|(go_simp;rfl));intro gb244 hg w36 hbox hb;have n0_:=Ak (below_step (by repeat (first|(with_reducible first|exact HB.out|apply below_alloc|apply pw_below_drewN|apply below_drew1)|exact HB.out)) hb);have n1_:=Ak (hbox);have n2_:=Ak ((by rw [hg];exact (below_size (by repeat (first|(with_reducible first|exact HB.out|apply below_alloc|apply pw_below_drewN|apply below_drew1)|exact HB.out))):w.heap.size≤gb244));have n3_:=Ak ((by rw [hg];exact (below_size (by repeat (first|(with_reducible first|exact HB.out|apply below_alloc|apply pw_below_drewN|apply below_drew1)|exact HB.out))):w.heap.size≤gb244));clear HB;have HB:=n0_;have BK244:=n1_;have GW244:=n2_;have GE244:=n3_;clear n0_ n1_ n2_ n3_;clear hb hbox hg)|((with_reducible refine gate_dst (N:=2) rfl ?_);refine box_event ?hg (N:=2) ?hd (cs:=#[.slice none 0 0,.slice none 0 0,.slice none 0 0,.slice none 0 0,.slice none 0 0]) (t:=26) ?hr ?_;(case hd=>rfl);(case hg=>rfl);(case hr=>first|(go_simp;done)|(go_simp;rfl));intro gb245 hg w37 hbox hb;have n0_:=Ak (blk_below (g:=gb244) (o:=.cells #[.slice A0_0 l0_0.length c0_0,.slice A0_1 l0_1.length c0_1,.slice A0_2 l0_2.length c0_2,.slice A0_3 l0_3.length c0_3,.slice A0_4 l0_4.length c0_4] 26 (0,0)) (by (with_reducible repeat (first|refine blk_drewN ?_ _|refine blk_drew ?_|refine blk_alloc ?_ _));exact BK244.out) hb);have n1_:=Ak (below_step (by repeat (first|(with_reducible first|exact HB.out|apply below_alloc|apply pw_below_drewN|apply below_drew1|refine below_set ?_ GE244.out)|exact HB.out)) hb);have n2_:=Ak (hbox);have n3_:=Ak ((by rw [hg];exact (below_size (by repeat (first|(with_reducible first|exact HB.out|apply below_alloc|apply pw_below_drewN|apply below_drew1|refine below_set ?_ GE244.out)|exact HB.out))):w.heap.size≤gb245));have n4_:=Ak ((by rw [hg];exact (below_size (by repeat (first|(with_reducible first|exact HB.out|apply below_alloc|apply pw_below_drewN|apply below_drew1|refine below_set ?_ GE244.out)|exact HB.out))):w.heap.size≤gb245));have n5_:=Ak ((by rw [hg];exact Nat.ne_of_lt (blk_lt (g:=gb244) (o:=.cells #[.slice A0_0 l0_0.length c0_0,.slice A0_1 l0_1.length c0_1,.slice A0_2 l0_2.length c0_2,.slice A0_3 l0_3.length c0_3,.slice A0_4 l0_4.length c0_4] 26 (0,0)) (by (with_reducible repeat (first|refine blk_drewN ?_ _|refine blk_drew ?_|refine blk_alloc ?_ _));exact BK244.out)):gb244 ≠ gb245));have n6_:=Ak ((by rw [hg];exact Nat.ne_of_gt (blk_lt (g:=gb244) (o:=.cells #[.slice A0_0 l0_0.length c0_0,.slice A0_1 l0_1.length c0_1,.slice A0_2 l0_2.length c0_2,.slice A0_3 l0_3.length c0_3,.slice A0_4 l0_4.length c0_4] 26 (0,0)) (by (with_reducible repeat (first|refine blk_drewN ?_ _|refine blk_drew ?_|refine blk_alloc ?_ _));exact BK244.out)):gb245 ≠ gb244));clear BK244;clear HB;have BK244:=n0_;have HB:=n1_;have BK245:=n2_;have GW245:=n3_;have GE245:=n4_;have NB244_245:=n5_;have NB245_244:=n6_;clear n0_ n1_ n2_ n3_ n4_ n5_ n6_;clear hb hbox hg;have hnb38:=NB244_245.out;have hnc38:=NB245_244.out;have hcz39_0:w37.cell? ⟨gb244,0,none⟩=some (.slice A0_0 l0_0.length c0_0):=(blk_cell BK244.out 0).trans rfl;have hcz39_1:w37.cell? ⟨gb244,1,none⟩=some (.slice A0_1 l0_1.length c0_1):=(blk_cell BK244.out 1).trans rfl;have hcz39_2:w37.cell? ⟨gb244,2,none⟩=some (.slice A0_2 l0_2.length c0_2):=(blk_cell BK244.out 2).trans rfl;have hcz39_3:w37.cell? ⟨gb244,3,none⟩=some (.slice A0_3 l0_3.length c0_3):=(blk_cell BK244.out 3).trans rfl;have hcz39_4:w37.cell? ⟨gb244,4,none⟩=some (.slice A0_4 l0_4.length c0_4):=(blk_cell BK244.out 4).trans rfl;have hfz39_0:=blk_frozen BK244.out 0;have hfz39_1:=blk_frozen BK244.out 1;have hfz39_2:=blk_frozen BK244.out 2;have hfz39_3:=blk_frozen BK244.out 3;have hfz39_4:=blk_frozen BK244.out 4)|((with_reducible refine gate_callee (f:=19) rfl ?_);refine goesL_ (some 5) rfl rfl Try.func19 (by kernel_rfl) rfl #[.agg #[.slice A0_0 l0_0.length c0_0,.slice A0_1 l0_1.length c0_1,.slice A0_2 l0_2.length c0_2,.slice A0_3 l0_3.length c0_3,.slice A0_4 l0_4.length c0_4]] rfl (by (try simp only [List.map_toArray,List.map_cons,List.map_nil]);first|done|rfl|(simp only [List.length_drop,List.length_take];rfl)) ?_;(with_reducible refine (spec_StoreOk.calls k _ _ l0_0 _ _ l0_1 _ _ l0_2 _ _ l0_3 _ _ l0_4 false _ ?side1 ?side2 ?side3 ?side4 ?side5 ?side6 ?side7 ?side8 ?side9 ?side10 A2.out).mono ?_);(case side1=>repeat (first|exact (Kd.C_below HR0_0.out HB.out)|(with_reducible refine Kd.C_alloc ?_ _)|(with_reducible refine Kd.C_drewN ?_ _)|(with_reducible refine Kd.C_drew ?_)));(case side2=>exact HC0_0.out);(case side3=>repeat (first|exact (Kd.C_below HR0_1.out HB.out)|(with_reducible refine Kd.C_alloc ?_ _)|(with_reducible refine Kd.C_drewN ?_ _)|(with_reducible refine Kd.C_drew ?_)));(case side4=>exact HC0_1.out);(case side5=>repeat (first|exact (Kd.C_below HR0_2.out HB.out)|(with_reducible refine Kd.C_alloc ?_ _)|(with_reducible refine Kd.C_drewN ?_ _)|(with_reducible refine Kd.C_drew ?_)));(case side6=>exact HC0_2.out);(case side7=>repeat (first|exact (Kd.C_below HR0_3.out HB.out)|(with_reducible refine Kd.C_alloc ?_ _)|(with_reducible refine Kd.C_drewN ?_ _)|(with_reducible refine Kd.C_drew ?_)));(case side8=>exact HC0_3.out);(case side9=>repeat (first|exact (Kd.C_below HR0_4.out HB.out)|(with_reducible refine Kd.C_alloc ?_ _)|(with_reducible refine Kd.C_drewN ?_ _)|(with_reducible refine Kd.C_drew ?_)));(case side10=>exact HC0_4.out);rintro e w40 ⟨rfl,hb⟩;refine ⟨_,rfl,?_⟩;have n0_:=Ak (blk_below (g:=gb244) (o:=.cells #[.slice A0_0 l0_0.length c0_0,.slice A0_1 l0_1.length c0_1,.slice A0_2 l0_2.length c0_2,.slice A0_3 l0_3.length c0_3,.slice A0_4 l0_4.length c0_4] 26 (0,0)) (by (with_reducible repeat (first|refine blk_drewN ?_ _|refine blk_drew ?_|refine blk_alloc ?_ _));exact BK244.out) hb);have n1_:=Ak (blk_below (g:=gb245) (o:=.cells #[.slice none 0 0,.slice none 0 0,.slice none 0 0,.slice none 0 0,.slice none 0 0] 26 (0,0)) (by (with_reducible repeat (first|refine blk_drewN ?_ _|refine blk_drew ?_|refine blk_alloc ?_ _));exact BK245.out) hb);have n2_:=Ak (below_step (by repeat (first|(with_reducible first|exact HB.out|apply below_alloc|apply pw_below_drewN|apply below_drew1|refine below_set ?_ GE244.out|refine below_set ?_ GE245.out)|exact HB.out)) hb);clear BK244;clear BK245;clear HB;have BK244:=n0_;have BK245:=n1_;have HB:=n2_;clear n0_ n1_ n2_;(try clear hb);(try clear hb2);(try clear hk);(try clear hi);have hcz41_0:w40.cell? ⟨gb245,0,none⟩=some (.slice none 0 0):=(blk_cell BK245.out 0).trans rfl;have hcz41_1:w40.cell? ⟨gb245,1,none⟩=some (.slice none 0 0):=(blk_cell BK245.out 1).trans rfl;have hcz41_2:w40.cell? ⟨gb245,2,none⟩=some (.slice none 0 0):=(blk_cell BK245.out 2).trans rfl;have hcz41_3:w40.cell? ⟨gb245,3,none⟩=some (.slice none 0 0):=(blk_cell BK245.out 3).trans rfl;have hcz41_4:w40.cell? ⟨gb245,4,none⟩=some (.slice none 0 0):=(blk_cell BK245.out 4).trans rfl;have hfz41_0:=blk_frozen BK245.out 0;have hfz41_1:=blk_frozen BK245.out 1;have hfz41_2:=blk_frozen BK245.out 2;have hfz41_3:=blk_frozen BK245.out 3;have hfz41_4:=blk_frozen BK245.out 4))
  refine bodyPost_ret (results_cell_row rfl _ _ gb245 26 #[.slice none 0 0,.slice none 0 0,.slice none 0 0,.slice none 0 0,.slice none 0 0] (0,0) _ rfl (by (with_reducible repeat (first|refine blk_drewN ?_ _|refine blk_drew ?_|refine blk_alloc ?_ _));refine blk_put (cs:=#[.slice none 0 0,.slice none 0 0,.slice none 0 0,.slice none 0 0,.slice none 0 0]) ?_ 4 _ rfl;(with_reducible repeat (first|refine blk_drewN ?_ _|refine blk_drew ?_|refine blk_alloc ?_ _));refine blk_put (cs:=#[.slice none 0 0,.slice none 0 0,.slice none 0 0,.slice none 0 0,.slice none 0 0]) ?_ 3 _ rfl;(with_reducible repeat (first|refine blk_drewN ?_ _|refine blk_drew ?_|refine blk_alloc ?_ _));refine blk_put (cs:=#[.slice none 0 0,.slice none 0 0,.slice none 0 0,.slice none 0 0,.slice none 0 0]) ?_ 2 _ rfl;(with_reducible repeat (first|refine blk_drewN ?_ _|refine blk_drew ?_|refine blk_alloc ?_ _));refine blk_put (cs:=#[.slice none 0 0,.slice none 0 0,.slice none 0 0,.slice none 0 0,.slice none 0 0]) ?_ 1 _ rfl;(with_reducible repeat (first|refine blk_drewN ?_ _|refine blk_drew ?_|refine blk_alloc ?_ _));refine blk_put (cs:=#[.slice none 0 0,.slice none 0 0,.slice none 0 0,.slice none 0 0,.slice none 0 0]) ?_ 0 _ rfl;(with_reducible repeat (first|refine blk_drewN ?_ _|refine blk_drew ?_|refine blk_alloc ?_ _));exact BK245.out) Try.underlying26 rfl (by kernel_rfl)) rfl ?_
  exact ⟨_,_,_,_,_,by first|rfl|(simp [errW_none,errW_some] <;> rfl)|(simp [*,errW_none,errW_some] <;> rfl),by first|exact Kd.R_nil _ _ _ _ _|exact Kd.N_nil _ _ _ _ _|exact Kd.V_nil _ _ _ _ _|exact Kd.Q_nil _ _ _ _ _|exact Kd.S_nil _ _ _ _ _,by first|exact Kd.R_nil _ _ _ _ _|exact Kd.N_nil _ _ _ _ _|exact Kd.V_nil _ _ _ _ _|exact Kd.Q_nil _ _ _ _ _|exact Kd.S_nil _ _ _ _ _,by first|exact Kd.R_nil _ _ _ _ _|exact Kd.N_nil _ _ _ _ _|exact Kd.V_nil _ _ _ _ _|exact Kd.Q_nil _ _ _ _ _|exact Kd.S_nil _ _ _ _ _,by first|exact Kd.R_nil _ _ _ _ _|exact Kd.N_nil _ _ _ _ _|exact Kd.V_nil _ _ _ _ _|exact Kd.Q_nil _ _ _ _ _|exact Kd.S_nil _ _ _ _ _,by first|exact Kd.R_nil _ _ _ _ _|exact Kd.N_nil _ _ _ _ _|exact Kd.V_nil _ _ _ _ _|exact Kd.Q_nil _ _ _ _ _|exact Kd.S_nil _ _ _ _ _,by repeat (first|(with_reducible first|exact HB.out|apply below_alloc|apply pw_below_drewN|apply below_drew1|refine below_set ?_ GE244.out|refine below_set ?_ GE245.out)|exact HB.out)⟩
def impl_StoreSync.f (k:Nat) (l0_0:List ByteArray) (l0_1:List ByteArray) (l0_2:List Int) (l0_3:List Int) (l0_4:List Int):Option (List ByteArray × List ByteArray × List Int × List Int × List Int):=(impl_StoreOk.f k l0_0 l0_1 l0_2 l0_3 l0_4).bind fun t772=>(if t772=true then ((impl_again.f l0_0 l0_1 l0_2 l0_3 l0_4).bind fun bt773=>((slices_Clone_string_string.f bt773.1).bind fun t788=>((slices_Clone_int_int.f bt773.2.2.1).bind fun t791=>(some (bt773.1,t788,bt773.2.2.1,t791,bt773.2.2.2.2))))) else (some (([]:List ByteArray),([]:List ByteArray),([]:List Int),([]:List Int),([]:List Int))))
def impl_StoreSync.T4:Bool × List (List Nat × List Nat):=(true,[([],[]),([0],[0]),([1],[1]),([],[]),([3],[3]),([4,2],[4]),([0,1,2,3,4],[]),([6,2,5,0,1,2,3,4],[2,6]),([0,1,2,3,4,5,6,7],[]),([8,5,7,0,1,2,3,4,5,6,7],[5,8])])
def impl_StoreSync.B4:List Nat:=[0,1,3,0,8,31,31,127,255,511]
theorem impl_StoreSync.tab4:rtab .any (opsOf Try.f21 4)=impl_StoreSync.T4:=by kernel_rfl
theorem impl_StoreSync.bits4:waitsOk impl_StoreSync.T4.2 impl_StoreSync.B4=true:=by kernel_rfl
theorem impl_StoreSync.calls (k:Nat) (A0_0:Option Addr) (c0_0:Nat) (l0_0:List ByteArray) (A0_1:Option Addr) (c0_1:Nat) (l0_1:List ByteArray) (A0_2:Option Addr) (c0_2:Nat) (l0_2:List Int) (A0_3:Option Addr) (c0_3:Nat) (l0_3:List Int) (A0_4:Option Addr) (c0_4:Nat) (l0_4:List Int) (r1:List ByteArray) (r2:List ByteArray) (r3:List Int) (r4:List Int) (r5:List Int) (w:World) (hr0_0:Kd.C Kd.string w A0_0 l0_0.length l0_0) (hc0_0:l0_0.length≤c0_0) (hr0_1:Kd.C Kd.string w A0_1 l0_1.length l0_1) (hc0_1:l0_1.length≤c0_1) (hr0_2:Kd.C (Kd.int .i64) w A0_2 l0_2.length l0_2) (hc0_2:l0_2.length≤c0_2) (hr0_3:Kd.C (Kd.int .i64) w A0_3 l0_3.length l0_3) (hc0_3:l0_3.length≤c0_3) (hr0_4:Kd.C (Kd.int .i64) w A0_4 l0_4.length l0_4) (hc0_4:l0_4.length≤c0_4) (h:impl_StoreSync.f k l0_0 l0_1 l0_2 l0_3 l0_4=some (r1,r2,r3,r4,r5)) :
  Calls Try.prog 21 #[.agg #[.slice A0_0 l0_0.length c0_0,.slice A0_1 l0_1.length c0_1,.slice A0_2 l0_2.length c0_2,.slice A0_3 l0_3.length c0_3,.slice A0_4 l0_4.length c0_4]] w fun e w'=>∃ v0_ v1_ v2_ v3_ v4_:Value,e = .returned (.agg #[v0_,v1_,v2_,v3_,v4_])∧Kd.R Kd.string 9 w' w.heap.size (fun k_=>some k_ ≠ (v1_:Value).ownBlock) v0_ r1∧Kd.R Kd.string 9 w' w.heap.size (fun k_=>some k_ ≠ (v0_:Value).ownBlock) v1_ r2∧Kd.R (Kd.int .i64) 3 w' w.heap.size (fun k_=>some k_ ≠ (v3_:Value).ownBlock∧some k_ ≠ (v4_:Value).ownBlock) v2_ r3∧Kd.R (Kd.int .i64) 3 w' w.heap.size (fun k_=>some k_ ≠ (v2_:Value).ownBlock∧some k_ ≠ (v4_:Value).ownBlock) v3_ r4∧Kd.R (Kd.int .i64) 3 w' w.heap.size (fun k_=>some k_ ≠ (v2_:Value).ownBlock∧some k_ ≠ (v3_:Value).ownBlock) v4_ r5∧Below w.heap.size w w':=by
 have hu26:=Try.underlying26
 have HR0_0:=Ak hr0_0
 have HC0_0:=Ak hc0_0
 clear hr0_0 hc0_0
 have HR0_1:=Ak hr0_1
 have HC0_1:=Ak hc0_1
 clear hr0_1 hc0_1
 have HR0_2:=Ak hr0_2
 have HC0_2:=Ak hc0_2
 clear hr0_2 hc0_2
 have HR0_3:=Ak hr0_3
 have HC0_3:=Ak hc0_3
 clear hr0_3 hc0_3
 have HR0_4:=Ak hr0_4
 have HC0_4:=Ak hc0_4
 clear hr0_4 hc0_4
 have HB:=Ak (Below.refl w.heap.size w)
 have H:((impl_StoreOk.f k l0_0 l0_1 l0_2 l0_3 l0_4).bind fun t772=>(if t772=true then ((impl_again.f l0_0 l0_1 l0_2 l0_3 l0_4).bind fun bt773=>((slices_Clone_string_string.f bt773.1).bind fun t788=>((slices_Clone_int_int.f bt773.2.2.1).bind fun t791=>(some (bt773.1,t788,bt773.2.2.1,t791,bt773.2.2.2.2))))) else (some (([]:List ByteArray),([]:List ByteArray),([]:List Int),([]:List Int),([]:List Int)))))=some (r1,r2,r3,r4,r5):=h
 clear h
 replace H:=Option.bind_eq_some_iff.mp H
 obtain ⟨t772,A20,H⟩:=H
 replace H:(if t772=true then ((impl_again.f l0_0 l0_1 l0_2 l0_3 l0_4).bind fun bt773=>((slices_Clone_string_string.f bt773.1).bind fun t788=>((slices_Clone_int_int.f bt773.2.2.1).bind fun t791=>(some (bt773.1,t788,bt773.2.2.1,t791,bt773.2.2.2.2))))) else (some (([]:List ByteArray),([]:List ByteArray),([]:List Int),([]:List Int),([]:List Int))))=some (r1,r2,r3,r4,r5):=H
 have A2:=Ak A20
 clear A20
 by_cases c3:t772=true
 ·subst c3
  have H1:((impl_again.f l0_0 l0_1 l0_2 l0_3 l0_4).bind fun bt773=>((slices_Clone_string_string.f bt773.1).bind fun t788=>((slices_Clone_int_int.f bt773.2.2.1).bind fun t791=>(some (bt773.1,t788,bt773.2.2.1,t791,bt773.2.2.2.2)))))=some (r1,r2,r3,r4,r5):=by rw [if_pos rfl] at H;exact H
  clear H
  have H:=H1
  clear H1
  replace H:=Option.bind_eq_some_iff.mp H
  obtain ⟨⟨t773,t776,t779,t782,t785⟩,A40,H⟩:=H
  replace H:((slices_Clone_string_string.f t773).bind fun t788=>((slices_Clone_int_int.f t779).bind fun t791=>(some (t773,t788,t779,t791,t785))))=some (r1,r2,r3,r4,r5):=H
  have A4:=Ak A40
  clear A40
  replace H:=Option.bind_eq_some_iff.mp H
  obtain ⟨t788,A50,H⟩:=H
  replace H:((slices_Clone_int_int.f t779).bind fun t791=>(some (t773,t788,t779,t791,t785)))=some (r1,r2,r3,r4,r5):=H
  have A5:=Ak A50
  clear A50
  replace H:=Option.bind_eq_some_iff.mp H
  obtain ⟨t791,A60,H⟩:=H
  replace H:(some (t773,t788,t779,t791,t785))=some (r1,r2,r3,r4,r5):=H
  have A6:=Ak A60
  clear A60
  simp only [Option.some.injEq,Prod.mk.injEq] at H
  obtain ⟨rfl,rfl,rfl,rfl,rfl⟩:=H
  go_enter Try.func21,Try.ntmps21
  try go_wp2_with (first|((with_reducible refine gate_dst (N:=1) rfl ?_);refine box_event ?hg (N:=1) ?hd (cs:=#[.slice A0_0 l0_0.length c0_0,.slice A0_1 l0_1.length c0_1,.slice A0_2 l0_2.length c0_2,.slice A0_3 l0_3.length c0_3,.slice A0_4 l0_4.length c0_4]) (t:=26) ?hr ?_;(case hd=>rfl);(case hg=>rfl);(case hr=>first|(go_simp;done)|(go_simp;rfl));intro gb770 hg w7 hbox hb;have n0_:=Ak (below_step (by repeat (first|(with_reducible first|exact HB.out|apply below_alloc|apply pw_below_drewN|apply below_drew1)|exact HB.out)) hb);have n1_:=Ak (hbox);have n2_:=Ak ((by rw [hg];exact (below_size (by repeat (first|(with_reducible first|exact HB.out|apply below_alloc|apply pw_below_drewN|apply below_drew1)|exact HB.out))):w.heap.size≤gb770));have n3_:=Ak ((by rw [hg];exact (below_size (by repeat (first|(with_reducible first|exact HB.out|apply below_alloc|apply pw_below_drewN|apply below_drew1)|exact HB.out))):w.heap.size≤gb770));clear HB;have HB:=n0_;have BK770:=n1_;have GW770:=n2_;have GE770:=n3_;clear n0_ n1_ n2_ n3_;clear hb hbox hg)|((with_reducible refine gate_dst (N:=2) rfl ?_);refine box_event ?hg (N:=2) ?hd (cs:=#[.slice none 0 0,.slice none 0 0,.slice none 0 0,.slice none 0 0,.slice none 0 0]) (t:=26) ?hr ?_;(case hd=>rfl);(case hg=>rfl);(case hr=>first|(go_simp;done)|(go_simp;rfl));intro gb771 hg w8 hbox hb;have n0_:=Ak (blk_below (g:=gb770) (o:=.cells #[.slice A0_0 l0_0.length c0_0,.slice A0_1 l0_1.length c0_1,.slice A0_2 l0_2.length c0_2,.slice A0_3 l0_3.length c0_3,.slice A0_4 l0_4.length c0_4] 26 (0,0)) (by (with_reducible repeat (first|refine blk_drewN ?_ _|refine blk_drew ?_|refine blk_alloc ?_ _));exact BK770.out) hb);have n1_:=Ak (below_step (by repeat (first|(with_reducible first|exact HB.out|apply below_alloc|apply pw_below_drewN|apply below_drew1|refine below_set ?_ GE770.out)|exact HB.out)) hb);have n2_:=Ak (hbox);have n3_:=Ak ((by rw [hg];exact (below_size (by repeat (first|(with_reducible first|exact HB.out|apply below_alloc|apply pw_below_drewN|apply below_drew1|refine below_set ?_ GE770.out)|exact HB.out))):w.heap.size≤gb771));have n4_:=Ak ((by rw [hg];exact (below_size (by repeat (first|(with_reducible first|exact HB.out|apply below_alloc|apply pw_below_drewN|apply below_drew1|refine below_set ?_ GE770.out)|exact HB.out))):w.heap.size≤gb771));have n5_:=Ak ((by rw [hg];exact Nat.ne_of_lt (blk_lt (g:=gb770) (o:=.cells #[.slice A0_0 l0_0.length c0_0,.slice A0_1 l0_1.length c0_1,.slice A0_2 l0_2.length c0_2,.slice A0_3 l0_3.length c0_3,.slice A0_4 l0_4.length c0_4] 26 (0,0)) (by (with_reducible repeat (first|refine blk_drewN ?_ _|refine blk_drew ?_|refine blk_alloc ?_ _));exact BK770.out)):gb770 ≠ gb771));have n6_:=Ak ((by rw [hg];exact Nat.ne_of_gt (blk_lt (g:=gb770) (o:=.cells #[.slice A0_0 l0_0.length c0_0,.slice A0_1 l0_1.length c0_1,.slice A0_2 l0_2.length c0_2,.slice A0_3 l0_3.length c0_3,.slice A0_4 l0_4.length c0_4] 26 (0,0)) (by (with_reducible repeat (first|refine blk_drewN ?_ _|refine blk_drew ?_|refine blk_alloc ?_ _));exact BK770.out)):gb771 ≠ gb770));clear BK770;clear HB;have BK770:=n0_;have HB:=n1_;have BK771:=n2_;have GW771:=n3_;have GE771:=n4_;have NB770_771:=n5_;have NB771_770:=n6_;clear n0_ n1_ n2_ n3_ n4_ n5_ n6_;clear hb hbox hg;have hnb9:=NB770_771.out;have hnc9:=NB771_770.out;have hcz10_0:w8.cell? ⟨gb770,0,none⟩=some (.slice A0_0 l0_0.length c0_0):=(blk_cell BK770.out 0).trans rfl;have hcz10_1:w8.cell? ⟨gb770,1,none⟩=some (.slice A0_1 l0_1.length c0_1):=(blk_cell BK770.out 1).trans rfl;have hcz10_2:w8.cell? ⟨gb770,2,none⟩=some (.slice A0_2 l0_2.length c0_2):=(blk_cell BK770.out 2).trans rfl;have hcz10_3:w8.cell? ⟨gb770,3,none⟩=some (.slice A0_3 l0_3.length c0_3):=(blk_cell BK770.out 3).trans rfl;have hcz10_4:w8.cell? ⟨gb770,4,none⟩=some (.slice A0_4 l0_4.length c0_4):=(blk_cell BK770.out 4).trans rfl;have hfz10_0:=blk_frozen BK770.out 0;have hfz10_1:=blk_frozen BK770.out 1;have hfz10_2:=blk_frozen BK770.out 2;have hfz10_3:=blk_frozen BK770.out 3;have hfz10_4:=blk_frozen BK770.out 4)|((with_reducible refine gate_callee (f:=23) rfl ?_);refine goesL_ (some 4) rfl rfl Try.func23 (by kernel_rfl) rfl #[.agg #[.slice A0_0 l0_0.length c0_0,.slice A0_1 l0_1.length c0_1,.slice A0_2 l0_2.length c0_2,.slice A0_3 l0_3.length c0_3,.slice A0_4 l0_4.length c0_4]] rfl (by (try simp only [List.map_toArray,List.map_cons,List.map_nil]);first|done|rfl|(simp only [List.length_drop,List.length_take];rfl)) ?_;(with_reducible refine (impl_StoreOk.calls k _ _ l0_0 _ _ l0_1 _ _ l0_2 _ _ l0_3 _ _ l0_4 true _ ?side1 ?side2 ?side3 ?side4 ?side5 ?side6 ?side7 ?side8 ?side9 ?side10 A2.out).mono ?_);(case side1=>repeat (first|exact (Kd.C_below HR0_0.out HB.out)|(with_reducible refine Kd.C_alloc ?_ _)|(with_reducible refine Kd.C_drewN ?_ _)|(with_reducible refine Kd.C_drew ?_)));(case side2=>exact HC0_0.out);(case side3=>repeat (first|exact (Kd.C_below HR0_1.out HB.out)|(with_reducible refine Kd.C_alloc ?_ _)|(with_reducible refine Kd.C_drewN ?_ _)|(with_reducible refine Kd.C_drew ?_)));(case side4=>exact HC0_1.out);(case side5=>repeat (first|exact (Kd.C_below HR0_2.out HB.out)|(with_reducible refine Kd.C_alloc ?_ _)|(with_reducible refine Kd.C_drewN ?_ _)|(with_reducible refine Kd.C_drew ?_)));(case side6=>exact HC0_2.out);(case side7=>repeat (first|exact (Kd.C_below HR0_3.out HB.out)|(with_reducible refine Kd.C_alloc ?_ _)|(with_reducible refine Kd.C_drewN ?_ _)|(with_reducible refine Kd.C_drew ?_)));(case side8=>exact HC0_3.out);(case side9=>repeat (first|exact (Kd.C_below HR0_4.out HB.out)|(with_reducible refine Kd.C_alloc ?_ _)|(with_reducible refine Kd.C_drewN ?_ _)|(with_reducible refine Kd.C_drew ?_)));(case side10=>exact HC0_4.out);rintro e w11 ⟨rfl,hb⟩;refine ⟨_,rfl,?_⟩;have n0_:=Ak (blk_below (g:=gb770) (o:=.cells #[.slice A0_0 l0_0.length c0_0,.slice A0_1 l0_1.length c0_1,.slice A0_2 l0_2.length c0_2,.slice A0_3 l0_3.length c0_3,.slice A0_4 l0_4.length c0_4] 26 (0,0)) (by (with_reducible repeat (first|refine blk_drewN ?_ _|refine blk_drew ?_|refine blk_alloc ?_ _));exact BK770.out) hb);have n1_:=Ak (blk_below (g:=gb771) (o:=.cells #[.slice none 0 0,.slice none 0 0,.slice none 0 0,.slice none 0 0,.slice none 0 0] 26 (0,0)) (by (with_reducible repeat (first|refine blk_drewN ?_ _|refine blk_drew ?_|refine blk_alloc ?_ _));exact BK771.out) hb);have n2_:=Ak (below_step (by repeat (first|(with_reducible first|exact HB.out|apply below_alloc|apply pw_below_drewN|apply below_drew1|refine below_set ?_ GE770.out|refine below_set ?_ GE771.out)|exact HB.out)) hb);clear BK770;clear BK771;clear HB;have BK770:=n0_;have BK771:=n1_;have HB:=n2_;clear n0_ n1_ n2_;(try clear hb);(try clear hb2);(try clear hk);(try clear hi);have hcz12_0:w11.cell? ⟨gb770,0,none⟩=some (.slice A0_0 l0_0.length c0_0):=(blk_cell BK770.out 0).trans rfl;have hcz12_1:w11.cell? ⟨gb770,1,none⟩=some (.slice A0_1 l0_1.length c0_1):=(blk_cell BK770.out 1).trans rfl;have hcz12_2:w11.cell? ⟨gb770,2,none⟩=some (.slice A0_2 l0_2.length c0_2):=(blk_cell BK770.out 2).trans rfl;have hcz12_3:w11.cell? ⟨gb770,3,none⟩=some (.slice A0_3 l0_3.length c0_3):=(blk_cell BK770.out 3).trans rfl;have hcz12_4:w11.cell? ⟨gb770,4,none⟩=some (.slice A0_4 l0_4.length c0_4):=(blk_cell BK770.out 4).trans rfl;have hfz12_0:=blk_frozen BK770.out 0;have hfz12_1:=blk_frozen BK770.out 1;have hfz12_2:=blk_frozen BK770.out 2;have hfz12_3:=blk_frozen BK770.out 3;have hfz12_4:=blk_frozen BK770.out 4)|((with_reducible refine gate_callee (f:=49) rfl ?_);refine goesL_ (some 8) rfl rfl Try.func49 (by kernel_rfl) rfl #[.agg #[.slice A0_0 l0_0.length c0_0,.slice A0_1 l0_1.length c0_1,.slice A0_2 l0_2.length c0_2,.slice A0_3 l0_3.length c0_3,.slice A0_4 l0_4.length c0_4]] rfl (by (try simp only [List.map_toArray,List.map_cons,List.map_nil]);first|done|rfl|(simp only [List.length_drop,List.length_take];rfl)) ?_;(with_reducible refine (impl_again.calls _ _ l0_0 _ _ l0_1 _ _ l0_2 _ _ l0_3 _ _ l0_4 t773 t776 t779 t782 t785 _ ?side1 ?side2 ?side3 ?side4 ?side5 ?side6 ?side7 ?side8 ?side9 ?side10 A4.out).mono ?_);(case side1=>repeat (first|exact (Kd.C_below HR0_0.out HB.out)|(with_reducible refine Kd.C_alloc ?_ _)|(with_reducible refine Kd.C_drewN ?_ _)|(with_reducible refine Kd.C_drew ?_)));(case side2=>exact HC0_0.out);(case side3=>repeat (first|exact (Kd.C_below HR0_1.out HB.out)|(with_reducible refine Kd.C_alloc ?_ _)|(with_reducible refine Kd.C_drewN ?_ _)|(with_reducible refine Kd.C_drew ?_)));(case side4=>exact HC0_1.out);(case side5=>repeat (first|exact (Kd.C_below HR0_2.out HB.out)|(with_reducible refine Kd.C_alloc ?_ _)|(with_reducible refine Kd.C_drewN ?_ _)|(with_reducible refine Kd.C_drew ?_)));(case side6=>exact HC0_2.out);(case side7=>repeat (first|exact (Kd.C_below HR0_3.out HB.out)|(with_reducible refine Kd.C_alloc ?_ _)|(with_reducible refine Kd.C_drewN ?_ _)|(with_reducible refine Kd.C_drew ?_)));(case side8=>exact HC0_3.out);(case side9=>repeat (first|exact (Kd.C_below HR0_4.out HB.out)|(with_reducible refine Kd.C_alloc ?_ _)|(with_reducible refine Kd.C_drewN ?_ _)|(with_reducible refine Kd.C_drew ?_)));(case side10=>exact HC0_4.out);rintro e w13 ⟨v774,v777,v780,v783,v786,rfl,ho0,ho1,ho2,ho3,ho4,hb⟩;refine ⟨_,rfl,?_⟩;have n0_:=Ak (Kd.R_lower ho0 (below_size (by repeat (first|(with_reducible first|exact HB.out|apply below_alloc|apply pw_below_drewN|apply below_drew1|refine below_set ?_ GE770.out|refine below_set ?_ GE771.out)|exact HB.out))));have n1_:=Ak (Kd.R_lower ho1 (below_size (by repeat (first|(with_reducible first|exact HB.out|apply below_alloc|apply pw_below_drewN|apply below_drew1|refine below_set ?_ GE770.out|refine below_set ?_ GE771.out)|exact HB.out))));have n2_:=Ak (Kd.R_lower ho2 (below_size (by repeat (first|(with_reducible first|exact HB.out|apply below_alloc|apply pw_below_drewN|apply below_drew1|refine below_set ?_ GE770.out|refine below_set ?_ GE771.out)|exact HB.out))));have n3_:=Ak (Kd.R_lower ho3 (below_size (by repeat (first|(with_reducible first|exact HB.out|apply below_alloc|apply pw_below_drewN|apply below_drew1|refine below_set ?_ GE770.out|refine below_set ?_ GE771.out)|exact HB.out))));have n4_:=Ak (Kd.R_lower ho4 (below_size (by repeat (first|(with_reducible first|exact HB.out|apply below_alloc|apply pw_below_drewN|apply below_drew1|refine below_set ?_ GE770.out|refine below_set ?_ GE771.out)|exact HB.out))));have n5_:=Ak (blk_below (g:=gb770) (o:=.cells #[.slice A0_0 l0_0.length c0_0,.slice A0_1 l0_1.length c0_1,.slice A0_2 l0_2.length c0_2,.slice A0_3 l0_3.length c0_3,.slice A0_4 l0_4.length c0_4] 26 (0,0)) (by (with_reducible repeat (first|refine blk_drewN ?_ _|refine blk_drew ?_|refine blk_alloc ?_ _));exact BK770.out) hb);have n6_:=Ak (blk_below (g:=gb771) (o:=.cells #[.slice none 0 0,.slice none 0 0,.slice none 0 0,.slice none 0 0,.slice none 0 0] 26 (0,0)) (by (with_reducible repeat (first|refine blk_drewN ?_ _|refine blk_drew ?_|refine blk_alloc ?_ _));exact BK771.out) hb);have n7_:=Ak (below_step (by repeat (first|(with_reducible first|exact HB.out|apply below_alloc|apply pw_below_drewN|apply below_drew1|refine below_set ?_ GE770.out|refine below_set ?_ GE771.out)|exact HB.out)) hb);clear BK770;clear BK771;clear HB;have HO775:=n0_;have HO778:=n1_;have HO781:=n2_;have HO784:=n3_;have HO787:=n4_;have BK770:=n5_;have BK771:=n6_;have HB:=n7_;clear n0_ n1_ n2_ n3_ n4_ n5_ n6_ n7_;(try clear hb);(try clear hb2);(try clear hk);(try clear hi);(try clear ho0);(try clear ho1);(try clear ho2);(try clear ho3);(try clear ho4);obtain ⟨Ao14,co14,eo14⟩:=Kd.R_slice HO775.out;subst eo14;have hcz15_0:w13.cell? ⟨gb770,0,none⟩=some (.slice A0_0 l0_0.length c0_0):=(blk_cell BK770.out 0).trans rfl;have hcz15_1:w13.cell? ⟨gb770,1,none⟩=some (.slice A0_1 l0_1.length c0_1):=(blk_cell BK770.out 1).trans rfl;have hcz15_2:w13.cell? ⟨gb770,2,none⟩=some (.slice A0_2 l0_2.length c0_2):=(blk_cell BK770.out 2).trans rfl;have hcz15_3:w13.cell? ⟨gb770,3,none⟩=some (.slice A0_3 l0_3.length c0_3):=(blk_cell BK770.out 3).trans rfl;have hcz15_4:w13.cell? ⟨gb770,4,none⟩=some (.slice A0_4 l0_4.length c0_4):=(blk_cell BK770.out 4).trans rfl;have hfz15_0:=blk_frozen BK770.out 0;have hfz15_1:=blk_frozen BK770.out 1;have hfz15_2:=blk_frozen BK770.out 2;have hfz15_3:=blk_frozen BK770.out 3;have hfz15_4:=blk_frozen BK770.out 4;obtain ⟨Ao16,co16,eo16⟩:=Kd.R_slice HO778.out;subst eo16;obtain ⟨Ao17,co17,eo17⟩:=Kd.R_slice HO781.out;subst eo17;obtain ⟨Ao18,co18,eo18⟩:=Kd.R_slice HO784.out;subst eo18;obtain ⟨Ao19,co19,eo19⟩:=Kd.R_slice HO787.out;subst eo19))
  have n0_:Aside0 (Kd.R Kd.string 9 (((((w13.setCell ⟨gb770,0,none⟩ (.slice Ao14 t773.length co14)).setCell ⟨gb770,1,none⟩ (.slice Ao16 t776.length co16)).setCell ⟨gb770,2,none⟩ (.slice Ao17 t779.length co17)).setCell ⟨gb770,3,none⟩ (.slice Ao18 t782.length co18)).setCell ⟨gb770,4,none⟩ (.slice Ao19 t785.length co19)) w.heap.size (fun k_=>some k_ ≠ (.slice Ao16 t776.length co16:Value).ownBlock) (.slice Ao14 t773.length co14) t773):=⟨by (with_reducible repeat (first|apply Kd.R_alloc|apply Kd.R_drewN|apply Kd.R_drew));exact Kd.R_mono (Kd.R_far (p:=⟨gb770,4,none⟩) (Kd.R_far (p:=⟨gb770,3,none⟩) (Kd.R_far (p:=⟨gb770,2,none⟩) (Kd.R_far (p:=⟨gb770,1,none⟩) (Kd.R_far (p:=⟨gb770,0,none⟩) (Kd.R_types HO775.out BK770.out (by decide)) (fun _ hk=>hk.2) (.slice Ao14 t773.length co14)) (fun _ hk=>hk.2) (.slice Ao16 t776.length co16)) (fun _ hk=>hk.2) (.slice Ao17 t779.length co17)) (fun _ hk=>hk.2) (.slice Ao18 t782.length co18)) (fun _ hk=>hk.2) (.slice Ao19 t785.length co19)) (fun _ hk=>hk.1)⟩
  have n1_:Aside0 (Kd.R Kd.string 9 (((((w13.setCell ⟨gb770,0,none⟩ (.slice Ao14 t773.length co14)).setCell ⟨gb770,1,none⟩ (.slice Ao16 t776.length co16)).setCell ⟨gb770,2,none⟩ (.slice Ao17 t779.length co17)).setCell ⟨gb770,3,none⟩ (.slice Ao18 t782.length co18)).setCell ⟨gb770,4,none⟩ (.slice Ao19 t785.length co19)) w.heap.size (fun k_=>some k_ ≠ (.slice Ao14 t773.length co14:Value).ownBlock) (.slice Ao16 t776.length co16) t776):=⟨by (with_reducible repeat (first|apply Kd.R_alloc|apply Kd.R_drewN|apply Kd.R_drew));exact Kd.R_mono (Kd.R_far (p:=⟨gb770,4,none⟩) (Kd.R_far (p:=⟨gb770,3,none⟩) (Kd.R_far (p:=⟨gb770,2,none⟩) (Kd.R_far (p:=⟨gb770,1,none⟩) (Kd.R_far (p:=⟨gb770,0,none⟩) (Kd.R_types HO778.out BK770.out (by decide)) (fun _ hk=>hk.2) (.slice Ao14 t773.length co14)) (fun _ hk=>hk.2) (.slice Ao16 t776.length co16)) (fun _ hk=>hk.2) (.slice Ao17 t779.length co17)) (fun _ hk=>hk.2) (.slice Ao18 t782.length co18)) (fun _ hk=>hk.2) (.slice Ao19 t785.length co19)) (fun _ hk=>hk.1)⟩
  have n2_:Aside0 (Kd.R (Kd.int .i64) 3 (((((w13.setCell ⟨gb770,0,none⟩ (.slice Ao14 t773.length co14)).setCell ⟨gb770,1,none⟩ (.slice Ao16 t776.length co16)).setCell ⟨gb770,2,none⟩ (.slice Ao17 t779.length co17)).setCell ⟨gb770,3,none⟩ (.slice Ao18 t782.length co18)).setCell ⟨gb770,4,none⟩ (.slice Ao19 t785.length co19)) w.heap.size (fun k_=>some k_ ≠ (.slice Ao18 t782.length co18:Value).ownBlock∧some k_ ≠ (.slice Ao19 t785.length co19:Value).ownBlock) (.slice Ao17 t779.length co17) t779):=⟨by (with_reducible repeat (first|apply Kd.R_alloc|apply Kd.R_drewN|apply Kd.R_drew));exact Kd.R_mono (Kd.R_far (p:=⟨gb770,4,none⟩) (Kd.R_far (p:=⟨gb770,3,none⟩) (Kd.R_far (p:=⟨gb770,2,none⟩) (Kd.R_far (p:=⟨gb770,1,none⟩) (Kd.R_far (p:=⟨gb770,0,none⟩) (Kd.R_types HO781.out BK770.out (by decide)) (fun _ hk=>hk.2) (.slice Ao14 t773.length co14)) (fun _ hk=>hk.2) (.slice Ao16 t776.length co16)) (fun _ hk=>hk.2) (.slice Ao17 t779.length co17)) (fun _ hk=>hk.2) (.slice Ao18 t782.length co18)) (fun _ hk=>hk.2) (.slice Ao19 t785.length co19)) (fun _ hk=>⟨hk.1.1,hk.1.2⟩)⟩
  have n3_:Aside0 (Kd.R (Kd.int .i64) 3 (((((w13.setCell ⟨gb770,0,none⟩ (.slice Ao14 t773.length co14)).setCell ⟨gb770,1,none⟩ (.slice Ao16 t776.length co16)).setCell ⟨gb770,2,none⟩ (.slice Ao17 t779.length co17)).setCell ⟨gb770,3,none⟩ (.slice Ao18 t782.length co18)).setCell ⟨gb770,4,none⟩ (.slice Ao19 t785.length co19)) w.heap.size (fun k_=>some k_ ≠ (.slice Ao17 t779.length co17:Value).ownBlock∧some k_ ≠ (.slice Ao19 t785.length co19:Value).ownBlock) (.slice Ao18 t782.length co18) t782):=⟨by (with_reducible repeat (first|apply Kd.R_alloc|apply Kd.R_drewN|apply Kd.R_drew));exact Kd.R_mono (Kd.R_far (p:=⟨gb770,4,none⟩) (Kd.R_far (p:=⟨gb770,3,none⟩) (Kd.R_far (p:=⟨gb770,2,none⟩) (Kd.R_far (p:=⟨gb770,1,none⟩) (Kd.R_far (p:=⟨gb770,0,none⟩) (Kd.R_types HO784.out BK770.out (by decide)) (fun _ hk=>hk.2) (.slice Ao14 t773.length co14)) (fun _ hk=>hk.2) (.slice Ao16 t776.length co16)) (fun _ hk=>hk.2) (.slice Ao17 t779.length co17)) (fun _ hk=>hk.2) (.slice Ao18 t782.length co18)) (fun _ hk=>hk.2) (.slice Ao19 t785.length co19)) (fun _ hk=>⟨hk.1.1,hk.1.2⟩)⟩
  have n4_:Aside0 (Kd.R (Kd.int .i64) 3 (((((w13.setCell ⟨gb770,0,none⟩ (.slice Ao14 t773.length co14)).setCell ⟨gb770,1,none⟩ (.slice Ao16 t776.length co16)).setCell ⟨gb770,2,none⟩ (.slice Ao17 t779.length co17)).setCell ⟨gb770,3,none⟩ (.slice Ao18 t782.length co18)).setCell ⟨gb770,4,none⟩ (.slice Ao19 t785.length co19)) w.heap.size (fun k_=>some k_ ≠ (.slice Ao17 t779.length co17:Value).ownBlock∧some k_ ≠ (.slice Ao18 t782.length co18:Value).ownBlock) (.slice Ao19 t785.length co19) t785):=⟨by (with_reducible repeat (first|apply Kd.R_alloc|apply Kd.R_drewN|apply Kd.R_drew));exact Kd.R_mono (Kd.R_far (p:=⟨gb770,4,none⟩) (Kd.R_far (p:=⟨gb770,3,none⟩) (Kd.R_far (p:=⟨gb770,2,none⟩) (Kd.R_far (p:=⟨gb770,1,none⟩) (Kd.R_far (p:=⟨gb770,0,none⟩) (Kd.R_types HO787.out BK770.out (by decide)) (fun _ hk=>hk.2) (.slice Ao14 t773.length co14)) (fun _ hk=>hk.2) (.slice Ao16 t776.length co16)) (fun _ hk=>hk.2) (.slice Ao17 t779.length co17)) (fun _ hk=>hk.2) (.slice Ao18 t782.length co18)) (fun _ hk=>hk.2) (.slice Ao19 t785.length co19)) (fun _ hk=>⟨hk.1.1,hk.1.2⟩)⟩
  have n5_:Aside0 ((((((w13.setCell ⟨gb770,0,none⟩ (.slice Ao14 t773.length co14)).setCell ⟨gb770,1,none⟩ (.slice Ao16 t776.length co16)).setCell ⟨gb770,2,none⟩ (.slice Ao17 t779.length co17)).setCell ⟨gb770,3,none⟩ (.slice Ao18 t782.length co18)).setCell ⟨gb770,4,none⟩ (.slice Ao19 t785.length co19)).heap[gb770]?=some (.cells #[.slice Ao14 t773.length co14,.slice Ao16 t776.length co16,.slice Ao17 t779.length co17,.slice Ao18 t782.length co18,.slice Ao19 t785.length co19] 26 (0,0))):=⟨by (with_reducible repeat (first|refine blk_drewN ?_ _|refine blk_drew ?_|refine blk_alloc ?_ _));refine blk_put (cs:=#[.slice Ao14 t773.length co14,.slice Ao16 t776.length co16,.slice Ao17 t779.length co17,.slice Ao18 t782.length co18,.slice A0_4 l0_4.length c0_4]) ?_ 4 _ rfl;(with_reducible repeat (first|refine blk_drewN ?_ _|refine blk_drew ?_|refine blk_alloc ?_ _));refine blk_put (cs:=#[.slice Ao14 t773.length co14,.slice Ao16 t776.length co16,.slice Ao17 t779.length co17,.slice A0_3 l0_3.length c0_3,.slice A0_4 l0_4.length c0_4]) ?_ 3 _ rfl;(with_reducible repeat (first|refine blk_drewN ?_ _|refine blk_drew ?_|refine blk_alloc ?_ _));refine blk_put (cs:=#[.slice Ao14 t773.length co14,.slice Ao16 t776.length co16,.slice A0_2 l0_2.length c0_2,.slice A0_3 l0_3.length c0_3,.slice A0_4 l0_4.length c0_4]) ?_ 2 _ rfl;(with_reducible repeat (first|refine blk_drewN ?_ _|refine blk_drew ?_|refine blk_alloc ?_ _));refine blk_put (cs:=#[.slice Ao14 t773.length co14,.slice A0_1 l0_1.length c0_1,.slice A0_2 l0_2.length c0_2,.slice A0_3 l0_3.length c0_3,.slice A0_4 l0_4.length c0_4]) ?_ 1 _ rfl;(with_reducible repeat (first|refine blk_drewN ?_ _|refine blk_drew ?_|refine blk_alloc ?_ _));refine blk_put (cs:=#[.slice A0_0 l0_0.length c0_0,.slice A0_1 l0_1.length c0_1,.slice A0_2 l0_2.length c0_2,.slice A0_3 l0_3.length c0_3,.slice A0_4 l0_4.length c0_4]) ?_ 0 _ rfl;(with_reducible repeat (first|refine blk_drewN ?_ _|refine blk_drew ?_|refine blk_alloc ?_ _));exact BK770.out⟩
  have n6_:Aside0 ((((((w13.setCell ⟨gb770,0,none⟩ (.slice Ao14 t773.length co14)).setCell ⟨gb770,1,none⟩ (.slice Ao16 t776.length co16)).setCell ⟨gb770,2,none⟩ (.slice Ao17 t779.length co17)).setCell ⟨gb770,3,none⟩ (.slice Ao18 t782.length co18)).setCell ⟨gb770,4,none⟩ (.slice Ao19 t785.length co19)).heap[gb771]?=some (.cells #[.slice none 0 0,.slice none 0 0,.slice none 0 0,.slice none 0 0,.slice none 0 0] 26 (0,0))):=⟨by (with_reducible repeat (first|refine blk_drewN ?_ _|refine blk_drew ?_|refine blk_alloc ?_ _));refine blk_far ?_ NB771_770.out _;(with_reducible repeat (first|refine blk_drewN ?_ _|refine blk_drew ?_|refine blk_alloc ?_ _));refine blk_far ?_ NB771_770.out _;(with_reducible repeat (first|refine blk_drewN ?_ _|refine blk_drew ?_|refine blk_alloc ?_ _));refine blk_far ?_ NB771_770.out _;(with_reducible repeat (first|refine blk_drewN ?_ _|refine blk_drew ?_|refine blk_alloc ?_ _));refine blk_far ?_ NB771_770.out _;(with_reducible repeat (first|refine blk_drewN ?_ _|refine blk_drew ?_|refine blk_alloc ?_ _));refine blk_far ?_ NB771_770.out _;(with_reducible repeat (first|refine blk_drewN ?_ _|refine blk_drew ?_|refine blk_alloc ?_ _));exact BK771.out⟩
  have n7_:Aside0 (Below w.heap.size w (((((w13.setCell ⟨gb770,0,none⟩ (.slice Ao14 t773.length co14)).setCell ⟨gb770,1,none⟩ (.slice Ao16 t776.length co16)).setCell ⟨gb770,2,none⟩ (.slice Ao17 t779.length co17)).setCell ⟨gb770,3,none⟩ (.slice Ao18 t782.length co18)).setCell ⟨gb770,4,none⟩ (.slice Ao19 t785.length co19))):=⟨by repeat (first|(with_reducible first|exact HB.out|apply below_alloc|apply pw_below_drewN|apply below_drew1|refine below_set ?_ GE770.out|refine below_set ?_ GE771.out)|exact HB.out)⟩
  (try clear HO775)
  (try clear HO778)
  (try clear HO781)
  (try clear HO784)
  (try clear HO787)
  (try clear BK770)
  (try clear BK771)
  (try clear HB)
  generalize (((((w13.setCell ⟨gb770,0,none⟩ (.slice Ao14 t773.length co14)).setCell ⟨gb770,1,none⟩ (.slice Ao16 t776.length co16)).setCell ⟨gb770,2,none⟩ (.slice Ao17 t779.length co17)).setCell ⟨gb770,3,none⟩ (.slice Ao18 t782.length co18)).setCell ⟨gb770,4,none⟩ (.slice Ao19 t785.length co19))=w20 at n0_ n1_ n2_ n3_ n4_ n5_ n6_ n7_ ⊢
  have HO775:=n0_
  have HO778:=n1_
  have HO781:=n2_
  have HO784:=n3_
  have HO787:=n4_
  have BK770:=n5_
  have BK771:=n6_
  have HB:=n7_
  clear n0_ n1_ n2_ n3_ n4_ n5_ n6_ n7_
  have n0_:=Ak (Kd.R_drew HO775.out)
  have n1_:=Ak (Kd.R_drew HO778.out)
  have n2_:=Ak (Kd.R_drew HO781.out)
  have n3_:=Ak (Kd.R_drew HO784.out)
  have n4_:=Ak (Kd.R_drew HO787.out)
  have n5_:=Ak (blk_drew BK770.out)
  have n6_:=Ak (blk_drew BK771.out)
  have n7_:=Ak (below_drew1 HB.out)
  clear HO775
  clear HO778
  clear HO781
  clear HO784
  clear HO787
  clear BK770
  clear BK771
  clear HB
  have HO775:=n0_
  have HO778:=n1_
  have HO781:=n2_
  have HO784:=n3_
  have HO787:=n4_
  have BK770:=n5_
  have BK771:=n6_
  have HB:=n7_
  clear n0_ n1_ n2_ n3_ n4_ n5_ n6_ n7_
  refine start_ (n:=10) (S:=fun w'=>w'.cell? ⟨gb770,0,none⟩=some (.slice Ao14 t773.length co14)∧w'.cell? ⟨gb770,1,none⟩=some (.slice Ao16 t776.length co16)∧w'.cell? ⟨gb770,2,none⟩=some (.slice Ao17 t779.length co17)∧w'.cell? ⟨gb770,3,none⟩=some (.slice Ao18 t782.length co18)∧w'.cell? ⟨gb770,4,none⟩=some (.slice Ao19 t785.length co19)) (ds:=[7,9]) #[false,false,false,false,false,false,false,false,false,false] (by kernel_rfl) rfl rfl ⟨(blk_cell BK770.out 0).trans rfl,(blk_cell BK770.out 1).trans rfl,(blk_cell BK770.out 2).trans rfl,(blk_cell BK770.out 3).trans rfl,(blk_cell BK770.out 4).trans rfl⟩ (fun hHeld=>?_);refine with_tabW impl_StoreSync.tab4 impl_StoreSync.bits4 (fun HT_ HW_=>?_)
  generalize w20.drew=w21 at HO775 HO778 HO781 HO784 HO787 BK770 BK771 HB hHeld ⊢
  refine pure_ (i:=0) (N:=some 9) (v:=?_) (a':=?_) #[T0,F0,F0,F0,F0,F0,F0,F0,F0,F0] rfl rfl (any_of HT_.out (by kernel_rfl)) (fun _ _ _ h=>h) (Or.inl ⟨by rfl,?_⟩) ?_ ?_
  rotate_left
  ·intro w'
   go_simp
   with_reducible rfl
  rotate_left
  ·simp only [Act.put,zzA,zzB,zzC,i64_w,i32_w]
   rfl
  refine pure_ (i:=3) (N:=some 12) (v:=?_) (a':=?_) #[T0,F0,F0,T0,F0,F0,F0,F0,F0,F0] rfl rfl (any_of HT_.out (by kernel_rfl)) (fun _ _ _ h=>h) (Or.inl ⟨by rfl,?_⟩) ?_ ?_
  rotate_left
  ·intro w'
   go_simp
   with_reducible rfl
  rotate_left
  ·simp only [Act.put,zzA,zzB,zzC,i64_w,i32_w]
   rfl
  refine take_ (i:=1) (N:=some 10) (v:=?_) (a':=?_) #[T0,T0,F0,T0,F0,F0,F0,F0,F0,F0] rfl rfl (take_ofW HT_.out HW_.out (by kernel_rfl)) (fun _ _ _ h=>h) (Or.inl ⟨by rfl,?_⟩) hHeld ?_ ?_
  rotate_left
  ·rintro w' ⟨s0,s1,s2,s3,s4⟩
   go_simp
   with_reducible rfl
  rotate_left
  ·simp only [Act.put,zzA,zzB,zzC,i64_w,i32_w]
   rfl
  refine take_ (i:=4) (N:=some 13) (v:=?_) (a':=?_) #[T0,T0,F0,T0,T0,F0,F0,F0,F0,F0] rfl rfl (take_ofW HT_.out HW_.out (by kernel_rfl)) (fun _ _ _ h=>h) (Or.inl ⟨by rfl,?_⟩) hHeld ?_ ?_
  rotate_left
  ·rintro w' ⟨s0,s1,s2,s3,s4⟩
   go_simp
   with_reducible rfl
  rotate_left
  ·simp only [Act.put,zzA,zzB,zzC,i64_w,i32_w]
   rfl
  refine one_ (i:=2) (N:=some 11) #[T0,T0,T0,T0,T0,F0,F0,F0,F0,F0] rfl rfl (one_of HT_.out (by kernel_rfl)) (by decide) (fun K hK=>?_)
  refine goes_ Try.func53 (by kernel_rfl) rfl #[.slice Ao14 t773.length co14] (by rfl) rfl rfl (by (try simp only [List.map_toArray,List.map_cons,List.map_nil]);first|done|rfl|(simp only [List.length_drop,List.length_take];rfl)) ?_
  with_reducible refine (slices_Clone_string_string.calls _ _ t773 t788 _ ?side1 ?side2 A5.out).mono ?_
  (case side1=>repeat (first|exact (Kd.R_reads' HO775.out).2.2|(with_reducible refine Kd.C_alloc ?_ _)|(with_reducible refine Kd.C_drewN ?_ _)|(with_reducible refine Kd.C_drew ?_)))
  (case side2=>exact (Kd.R_reads' HO775.out).2.1)
  rintro e w22 ⟨v789,rfl,ho0,hb⟩
  refine ⟨_,rfl,?_⟩
  have n0_:=Ak (Kd.R_elder' (by (with_reducible repeat (first|apply Kd.R_alloc|apply Kd.R_drewN|apply Kd.R_drew));exact HO775.out) (Kd.R_base ho0) hb)
  have n1_:=Ak (Kd.R_elder' (by (with_reducible repeat (first|apply Kd.R_alloc|apply Kd.R_drewN|apply Kd.R_drew));exact HO778.out) (Kd.R_base ho0) hb)
  have n2_:=Ak (Kd.R_below (by (with_reducible repeat (first|apply Kd.R_alloc|apply Kd.R_drewN|apply Kd.R_drew));exact HO781.out) hb)
  have n3_:=Ak (Kd.R_below (by (with_reducible repeat (first|apply Kd.R_alloc|apply Kd.R_drewN|apply Kd.R_drew));exact HO784.out) hb)
  have n4_:=Ak (Kd.R_below (by (with_reducible repeat (first|apply Kd.R_alloc|apply Kd.R_drewN|apply Kd.R_drew));exact HO787.out) hb)
  have n5_:=Ak (Kd.R_lower (Kd.R_new' (Kd.R_new' ho0 (Kd.R_lt (by (with_reducible repeat (first|apply Kd.R_alloc|apply Kd.R_drewN|apply Kd.R_drew));exact HO775.out))) (Kd.R_lt (by (with_reducible repeat (first|apply Kd.R_alloc|apply Kd.R_drewN|apply Kd.R_drew));exact HO778.out))) (below_size (by repeat (first|(with_reducible first|exact HB.out|apply below_alloc|apply pw_below_drewN|apply below_drew1|refine below_set ?_ GE770.out|refine below_set ?_ GE771.out)|exact HB.out))))
  have n6_:=Ak (blk_below (g:=gb770) (o:=.cells #[.slice Ao14 t773.length co14,.slice Ao16 t776.length co16,.slice Ao17 t779.length co17,.slice Ao18 t782.length co18,.slice Ao19 t785.length co19] 26 (0,0)) (by (with_reducible repeat (first|refine blk_drewN ?_ _|refine blk_drew ?_|refine blk_alloc ?_ _));exact BK770.out) hb)
  have n7_:=Ak (blk_below (g:=gb771) (o:=.cells #[.slice none 0 0,.slice none 0 0,.slice none 0 0,.slice none 0 0,.slice none 0 0] 26 (0,0)) (by (with_reducible repeat (first|refine blk_drewN ?_ _|refine blk_drew ?_|refine blk_alloc ?_ _));exact BK771.out) hb)
  have n8_:=Ak (below_step (by repeat (first|(with_reducible first|exact HB.out|apply below_alloc|apply pw_below_drewN|apply below_drew1|refine below_set ?_ GE770.out|refine below_set ?_ GE771.out)|exact HB.out)) hb)
  clear HO775
  clear HO778
  clear HO781
  clear HO784
  clear HO787
  clear BK770
  clear BK771
  clear HB
  have HO775:=n0_
  have HO778:=n1_
  have HO781:=n2_
  have HO784:=n3_
  have HO787:=n4_
  have HO790:=n5_
  have BK770:=n6_
  have BK771:=n7_
  have HB:=n8_
  clear n0_ n1_ n2_ n3_ n4_ n5_ n6_ n7_ n8_
  (try clear hb)
  (try clear hb2)
  (try clear hk)
  (try clear hi)
  (try clear ho0)
  refine hK.out _ _ ⟨(blk_cell BK770.out 0).trans rfl,(blk_cell BK770.out 1).trans rfl,(blk_cell BK770.out 2).trans rfl,(blk_cell BK770.out 3).trans rfl,(blk_cell BK770.out 4).trans rfl⟩ (fun hHeld=>?_)
  clear hK K
  refine norm_ (a':=?_) ?_ ?_
  rotate_left
  ·show Act.put _ (some 11) _=_
   simp only [Act.put,zzA,zzB,zzC,i64_w,i32_w]
   rfl
  refine pure_ (i:=6) (N:=some 15) (v:=?_) (a':=?_) #[T0,T0,T0,T0,T0,F0,T0,F0,F0,F0] rfl rfl (any_of HT_.out (by kernel_rfl)) (fun _ _ _ h=>h) (Or.inl ⟨by rfl,?_⟩) ?_ ?_
  rotate_left
  ·intro w'
   go_simp
   with_reducible rfl
  rotate_left
  ·simp only [Act.put,zzA,zzB,zzC,i64_w,i32_w]
   rfl
  refine one_ (i:=5) (N:=some 14) #[T0,T0,T0,T0,T0,T0,T0,F0,F0,F0] rfl rfl (one_of HT_.out (by kernel_rfl)) (by decide) (fun K hK=>?_)
  refine goes_ Try.func54 (by kernel_rfl) rfl #[.slice Ao17 t779.length co17] (by rfl) rfl rfl (by (try simp only [List.map_toArray,List.map_cons,List.map_nil]);first|done|rfl|(simp only [List.length_drop,List.length_take];rfl)) ?_
  with_reducible refine (slices_Clone_int_int.calls _ _ t779 t791 _ ?side1 ?side2 A6.out).mono ?_
  (case side1=>repeat (first|exact (Kd.R_reads' HO781.out).2.2|(with_reducible refine Kd.C_alloc ?_ _)|(with_reducible refine Kd.C_drewN ?_ _)|(with_reducible refine Kd.C_drew ?_)))
  (case side2=>exact (Kd.R_reads' HO781.out).2.1)
  rintro e w23 ⟨v792,rfl,ho0,hb⟩
  refine ⟨_,rfl,?_⟩
  have n0_:=Ak (Kd.R_below (by (with_reducible repeat (first|apply Kd.R_alloc|apply Kd.R_drewN|apply Kd.R_drew));exact HO775.out) hb)
  have n1_:=Ak (Kd.R_below (by (with_reducible repeat (first|apply Kd.R_alloc|apply Kd.R_drewN|apply Kd.R_drew));exact HO778.out) hb)
  have n2_:=Ak (Kd.R_elder' (by (with_reducible repeat (first|apply Kd.R_alloc|apply Kd.R_drewN|apply Kd.R_drew));exact HO781.out) (Kd.R_base ho0) hb)
  have n3_:=Ak (Kd.R_elder' (by (with_reducible repeat (first|apply Kd.R_alloc|apply Kd.R_drewN|apply Kd.R_drew));exact HO784.out) (Kd.R_base ho0) hb)
  have n4_:=Ak (Kd.R_elder' (by (with_reducible repeat (first|apply Kd.R_alloc|apply Kd.R_drewN|apply Kd.R_drew));exact HO787.out) (Kd.R_base ho0) hb)
  have n5_:=Ak (Kd.R_below (by (with_reducible repeat (first|apply Kd.R_alloc|apply Kd.R_drewN|apply Kd.R_drew));exact HO790.out) hb)
  have n6_:=Ak (Kd.R_lower (Kd.R_new' (Kd.R_new' (Kd.R_new' ho0 (Kd.R_lt (by (with_reducible repeat (first|apply Kd.R_alloc|apply Kd.R_drewN|apply Kd.R_drew));exact HO781.out))) (Kd.R_lt (by (with_reducible repeat (first|apply Kd.R_alloc|apply Kd.R_drewN|apply Kd.R_drew));exact HO784.out))) (Kd.R_lt (by (with_reducible repeat (first|apply Kd.R_alloc|apply Kd.R_drewN|apply Kd.R_drew));exact HO787.out))) (below_size (by repeat (first|(with_reducible first|exact HB.out|apply below_alloc|apply pw_below_drewN|apply below_drew1|refine below_set ?_ GE770.out|refine below_set ?_ GE771.out)|exact HB.out))))
  have n7_:=Ak (blk_below (g:=gb770) (o:=.cells #[.slice Ao14 t773.length co14,.slice Ao16 t776.length co16,.slice Ao17 t779.length co17,.slice Ao18 t782.length co18,.slice Ao19 t785.length co19] 26 (0,0)) (by (with_reducible repeat (first|refine blk_drewN ?_ _|refine blk_drew ?_|refine blk_alloc ?_ _));exact BK770.out) hb)
  have n8_:=Ak (blk_below (g:=gb771) (o:=.cells #[.slice none 0 0,.slice none 0 0,.slice none 0 0,.slice none 0 0,.slice none 0 0] 26 (0,0)) (by (with_reducible repeat (first|refine blk_drewN ?_ _|refine blk_drew ?_|refine blk_alloc ?_ _));exact BK771.out) hb)
  have n9_:=Ak (below_step (by repeat (first|(with_reducible first|exact HB.out|apply below_alloc|apply pw_below_drewN|apply below_drew1|refine below_set ?_ GE770.out|refine below_set ?_ GE771.out)|exact HB.out)) hb)
  clear HO775
  clear HO778
  clear HO781
  clear HO784
  clear HO787
  clear HO790
  clear BK770
  clear BK771
  clear HB
  have HO775:=n0_
  have HO778:=n1_
  have HO781:=n2_
  have HO784:=n3_
  have HO787:=n4_
  have HO790:=n5_
  have HO793:=n6_
  have BK770:=n7_
  have BK771:=n8_
  have HB:=n9_
  clear n0_ n1_ n2_ n3_ n4_ n5_ n6_ n7_ n8_ n9_
  (try clear hb)
  (try clear hb2)
  (try clear hk)
  (try clear hi)
  (try clear ho0)
  obtain ⟨Ao24,co24,eo24⟩:=Kd.R_slice HO790.out
  (first|subst eo24|(injection eo24 with f1_ f2_ f3_;have f4_:=f1_.symm;have f5_:=f3_.symm;clear f1_ f2_ f3_;subst f4_;subst f5_))
  obtain ⟨Ao26,co26,eo26⟩:=Kd.R_slice HO793.out
  (first|subst eo26|(injection eo26 with f1_ f2_ f3_;have f4_:=f1_.symm;have f5_:=f3_.symm;clear f1_ f2_ f3_;subst f4_;subst f5_))
  refine hK.out _ _ ⟨(blk_cell BK770.out 0).trans rfl,(blk_cell BK770.out 1).trans rfl,(blk_cell BK770.out 2).trans rfl,(blk_cell BK770.out 3).trans rfl,(blk_cell BK770.out 4).trans rfl⟩ (fun hHeld=>?_)
  clear hK K
  refine norm_ (a':=?_) ?_ ?_
  rotate_left
  ·show Act.put _ (some 14) _=_
   simp only [Act.put,zzA,zzB,zzC,i64_w,i32_w]
   rfl
  refine last_ (i:=7) (N:=none) #[T0,T0,T0,T0,T0,T0,T0,T0,F0,F0] rfl rfl (one_of HT_.out (by kernel_rfl)) (by decide) (fun K hK=>?_)
  have hs25:w23.cell? ⟨gb770,1,none⟩=some (.slice Ao16 t776.length co16):=(blk_cell BK770.out 1).trans rfl
  have hfs25:=blk_frozen BK770.out 1
  have hns25_1:=NB771_770.out
  have hms25_1:=NB770_771.out
  refine skip_ (w1:=?_) (by rfl) rfl ?_ ?_
  rotate_left
  ·go_simp
   rfl
  refine hK.out _ _ ?_
  clear hK K
  refine pure_ (i:=8) (N:=some 16) (v:=?_) (a':=?_) #[T0,T0,T0,T0,T0,T0,T0,T0,T0,F0] rfl rfl (any_of HT_.out (by kernel_rfl)) (fun _ _ _ h=>h) (Or.inl ⟨by rfl,?_⟩) ?_ ?_
  rotate_left
  ·intro w'
   go_simp
   with_reducible rfl
  rotate_left
  ·simp only [Act.put,zzA,zzB,zzC,i64_w,i32_w]
   rfl
  refine last_ (i:=9) (N:=none) #[T0,T0,T0,T0,T0,T0,T0,T0,T0,T0] rfl rfl (one_of HT_.out (by kernel_rfl)) (by decide) (fun K hK=>?_)
  have hs27:w23.cell? ⟨gb770,3,none⟩=some (.slice Ao18 t782.length co18):=(blk_cell BK770.out 3).trans rfl
  have hfs27:=blk_frozen BK770.out 3
  have hns27_1:=NB771_770.out
  have hms27_1:=NB770_771.out
  refine skip_ (w1:=?_) (by rfl) rfl ?_ ?_
  rotate_left
  ·go_simp
   rfl
  refine hK.out _ _ ?_
  clear hK K
  refine done_ (done_of HT_.out (by kernel_rfl)) ?_
  have hcz28_0:w23.cell? ⟨gb770,0,none⟩=some (.slice Ao14 t773.length co14):=(blk_cell BK770.out 0).trans rfl
  have hcz28_1:w23.cell? ⟨gb770,1,none⟩=some (.slice Ao16 t776.length co16):=(blk_cell BK770.out 1).trans rfl
  have hcz28_2:w23.cell? ⟨gb770,2,none⟩=some (.slice Ao17 t779.length co17):=(blk_cell BK770.out 2).trans rfl
  have hcz28_3:w23.cell? ⟨gb770,3,none⟩=some (.slice Ao18 t782.length co18):=(blk_cell BK770.out 3).trans rfl
  have hcz28_4:w23.cell? ⟨gb770,4,none⟩=some (.slice Ao19 t785.length co19):=(blk_cell BK770.out 4).trans rfl
  have hfz28_0:=blk_frozen BK770.out 0
  have hfz28_1:=blk_frozen BK770.out 1
  have hfz28_2:=blk_frozen BK770.out 2
  have hfz28_3:=blk_frozen BK770.out 3
  have hfz28_4:=blk_frozen BK770.out 4
  have hcz29_0:w23.cell? ⟨gb771,0,none⟩=some (.slice none 0 0):=(blk_cell BK771.out 0).trans rfl
  have hcz29_1:w23.cell? ⟨gb771,1,none⟩=some (.slice none 0 0):=(blk_cell BK771.out 1).trans rfl
  have hcz29_2:w23.cell? ⟨gb771,2,none⟩=some (.slice none 0 0):=(blk_cell BK771.out 2).trans rfl
  have hcz29_3:w23.cell? ⟨gb771,3,none⟩=some (.slice none 0 0):=(blk_cell BK771.out 3).trans rfl
  have hcz29_4:w23.cell? ⟨gb771,4,none⟩=some (.slice none 0 0):=(blk_cell BK771.out 4).trans rfl
  have hfz29_0:=blk_frozen BK771.out 0
  have hfz29_1:=blk_frozen BK771.out 1
  have hfz29_2:=blk_frozen BK771.out 2
  have hfz29_3:=blk_frozen BK771.out 3
  have hfz29_4:=blk_frozen BK771.out 4
  try go_wp2
  refine bodyPost_ret (results_cell_row rfl _ _ gb771 26 #[.slice Ao14 t773.length co14,.slice Ao24 t788.length co24,.slice Ao17 t779.length co17,.slice Ao26 t791.length co26,.slice Ao19 t785.length co19] (0,0) _ rfl (by (with_reducible repeat (first|refine blk_drewN ?_ _|refine blk_drew ?_|refine blk_alloc ?_ _));refine blk_put (cs:=#[.slice Ao14 t773.length co14,.slice Ao24 t788.length co24,.slice Ao17 t779.length co17,.slice Ao26 t791.length co26,.slice none 0 0]) ?_ 4 _ rfl;(with_reducible repeat (first|refine blk_drewN ?_ _|refine blk_drew ?_|refine blk_alloc ?_ _));refine blk_put (cs:=#[.slice Ao14 t773.length co14,.slice Ao24 t788.length co24,.slice Ao17 t779.length co17,.slice none 0 0,.slice none 0 0]) ?_ 3 _ rfl;(with_reducible repeat (first|refine blk_drewN ?_ _|refine blk_drew ?_|refine blk_alloc ?_ _));refine blk_put (cs:=#[.slice Ao14 t773.length co14,.slice Ao24 t788.length co24,.slice none 0 0,.slice none 0 0,.slice none 0 0]) ?_ 2 _ rfl;(with_reducible repeat (first|refine blk_drewN ?_ _|refine blk_drew ?_|refine blk_alloc ?_ _));refine blk_put (cs:=#[.slice Ao14 t773.length co14,.slice none 0 0,.slice none 0 0,.slice none 0 0,.slice none 0 0]) ?_ 1 _ rfl;(with_reducible repeat (first|refine blk_drewN ?_ _|refine blk_drew ?_|refine blk_alloc ?_ _));refine blk_put (cs:=#[.slice none 0 0,.slice none 0 0,.slice none 0 0,.slice none 0 0,.slice none 0 0]) ?_ 0 _ rfl;(with_reducible repeat (first|refine blk_drewN ?_ _|refine blk_drew ?_|refine blk_alloc ?_ _));refine blk_far ?_ NB771_770.out _;(with_reducible repeat (first|refine blk_drewN ?_ _|refine blk_drew ?_|refine blk_alloc ?_ _));refine blk_far ?_ NB771_770.out _;(with_reducible repeat (first|refine blk_drewN ?_ _|refine blk_drew ?_|refine blk_alloc ?_ _));exact BK771.out) Try.underlying26 rfl (by kernel_rfl)) rfl ?_
  exact ⟨_,_,_,_,_,by first|rfl|(simp [errW_none,errW_some] <;> rfl)|(simp [*,errW_none,errW_some] <;> rfl),by (with_reducible repeat (first|apply Kd.R_alloc|apply Kd.R_drewN|apply Kd.R_drew));exact Kd.R_mono (Kd.R_far (p:=⟨gb771,4,none⟩) (Kd.R_far (p:=⟨gb771,3,none⟩) (Kd.R_far (p:=⟨gb771,2,none⟩) (Kd.R_far (p:=⟨gb771,1,none⟩) (Kd.R_far (p:=⟨gb771,0,none⟩) (Kd.R_far (p:=⟨gb770,3,none⟩) (Kd.R_far (p:=⟨gb770,1,none⟩) (Kd.R_types (Kd.R_types HO775.out BK770.out (by decide)) BK771.out (by decide)) (fun _ hk=>hk.1.2) (.slice Ao24 t788.length co24)) (fun _ hk=>hk.1.2) (.slice Ao26 t791.length co26)) (fun _ hk=>hk.2) (.slice Ao14 t773.length co14)) (fun _ hk=>hk.2) (.slice Ao24 t788.length co24)) (fun _ hk=>hk.2) (.slice Ao17 t779.length co17)) (fun _ hk=>hk.2) (.slice Ao26 t791.length co26)) (fun _ hk=>hk.2) (.slice Ao19 t785.length co19)) (fun _ hk=>hk.1.1.2),by (with_reducible repeat (first|apply Kd.R_alloc|apply Kd.R_drewN|apply Kd.R_drew));exact Kd.R_mono (Kd.R_far (p:=⟨gb771,4,none⟩) (Kd.R_far (p:=⟨gb771,3,none⟩) (Kd.R_far (p:=⟨gb771,2,none⟩) (Kd.R_far (p:=⟨gb771,1,none⟩) (Kd.R_far (p:=⟨gb771,0,none⟩) (Kd.R_far (p:=⟨gb770,3,none⟩) (Kd.R_far (p:=⟨gb770,1,none⟩) (Kd.R_types (Kd.R_types HO790.out BK770.out (by decide)) BK771.out (by decide)) (fun _ hk=>hk.1.2) (.slice Ao24 t788.length co24)) (fun _ hk=>hk.1.2) (.slice Ao26 t791.length co26)) (fun _ hk=>hk.2) (.slice Ao14 t773.length co14)) (fun _ hk=>hk.2) (.slice Ao24 t788.length co24)) (fun _ hk=>hk.2) (.slice Ao17 t779.length co17)) (fun _ hk=>hk.2) (.slice Ao26 t791.length co26)) (fun _ hk=>hk.2) (.slice Ao19 t785.length co19)) (fun _ hk=>hk.1.1.1.2),by (with_reducible repeat (first|apply Kd.R_alloc|apply Kd.R_drewN|apply Kd.R_drew));exact Kd.R_mono (Kd.R_far (p:=⟨gb771,4,none⟩) (Kd.R_far (p:=⟨gb771,3,none⟩) (Kd.R_far (p:=⟨gb771,2,none⟩) (Kd.R_far (p:=⟨gb771,1,none⟩) (Kd.R_far (p:=⟨gb771,0,none⟩) (Kd.R_far (p:=⟨gb770,3,none⟩) (Kd.R_far (p:=⟨gb770,1,none⟩) (Kd.R_types (Kd.R_types HO781.out BK770.out (by decide)) BK771.out (by decide)) (fun _ hk=>hk.1.2) (.slice Ao24 t788.length co24)) (fun _ hk=>hk.1.2) (.slice Ao26 t791.length co26)) (fun _ hk=>hk.2) (.slice Ao14 t773.length co14)) (fun _ hk=>hk.2) (.slice Ao24 t788.length co24)) (fun _ hk=>hk.2) (.slice Ao17 t779.length co17)) (fun _ hk=>hk.2) (.slice Ao26 t791.length co26)) (fun _ hk=>hk.2) (.slice Ao19 t785.length co19)) (fun _ hk=>⟨hk.1.1.2,hk.1.1.1.2⟩),by (with_reducible repeat (first|apply Kd.R_alloc|apply Kd.R_drewN|apply Kd.R_drew));exact Kd.R_mono (Kd.R_far (p:=⟨gb771,4,none⟩) (Kd.R_far (p:=⟨gb771,3,none⟩) (Kd.R_far (p:=⟨gb771,2,none⟩) (Kd.R_far (p:=⟨gb771,1,none⟩) (Kd.R_far (p:=⟨gb771,0,none⟩) (Kd.R_far (p:=⟨gb770,3,none⟩) (Kd.R_far (p:=⟨gb770,1,none⟩) (Kd.R_types (Kd.R_types HO793.out BK770.out (by decide)) BK771.out (by decide)) (fun _ hk=>hk.1.2) (.slice Ao24 t788.length co24)) (fun _ hk=>hk.1.2) (.slice Ao26 t791.length co26)) (fun _ hk=>hk.2) (.slice Ao14 t773.length co14)) (fun _ hk=>hk.2) (.slice Ao24 t788.length co24)) (fun _ hk=>hk.2) (.slice Ao17 t779.length co17)) (fun _ hk=>hk.2) (.slice Ao26 t791.length co26)) (fun _ hk=>hk.2) (.slice Ao19 t785.length co19)) (fun _ hk=>⟨hk.1.1.1.1.2,hk.1.1.2⟩),by (with_reducible repeat (first|apply Kd.R_alloc|apply Kd.R_drewN|apply Kd.R_drew));exact Kd.R_mono (Kd.R_far (p:=⟨gb771,4,none⟩) (Kd.R_far (p:=⟨gb771,3,none⟩) (Kd.R_far (p:=⟨gb771,2,none⟩) (Kd.R_far (p:=⟨gb771,1,none⟩) (Kd.R_far (p:=⟨gb771,0,none⟩) (Kd.R_far (p:=⟨gb770,3,none⟩) (Kd.R_far (p:=⟨gb770,1,none⟩) (Kd.R_types (Kd.R_types HO787.out BK770.out (by decide)) BK771.out (by decide)) (fun _ hk=>hk.1.2) (.slice Ao24 t788.length co24)) (fun _ hk=>hk.1.2) (.slice Ao26 t791.length co26)) (fun _ hk=>hk.2) (.slice Ao14 t773.length co14)) (fun _ hk=>hk.2) (.slice Ao24 t788.length co24)) (fun _ hk=>hk.2) (.slice Ao17 t779.length co17)) (fun _ hk=>hk.2) (.slice Ao26 t791.length co26)) (fun _ hk=>hk.2) (.slice Ao19 t785.length co19)) (fun _ hk=>⟨hk.1.1.1.1,hk.1.1.2⟩),by repeat (first|(with_reducible first|exact HB.out|apply below_alloc|apply pw_below_drewN|apply below_drew1|refine below_set ?_ GE770.out|refine below_set ?_ GE771.out)|exact HB.out)⟩
 ·replace c3:=Bool.eq_false_iff.mpr c3
  subst c3
  have H1:(some (([]:List ByteArray),([]:List ByteArray),([]:List Int),([]:List Int),([]:List Int)))=some (r1,r2,r3,r4,r5):=by rw [if_neg (show ¬ (false=true) by decide)] at H;exact H
  clear H
  have H:=H1
  clear H1
  simp only [Option.some.injEq,Prod.mk.injEq] at H
  obtain ⟨rfl,rfl,rfl,rfl,rfl⟩:=H
  go_enter Try.func21,Try.ntmps21
  go_wp2_with (first|((with_reducible refine gate_dst (N:=1) rfl ?_);refine box_event ?hg (N:=1) ?hd (cs:=#[.slice A0_0 l0_0.length c0_0,.slice A0_1 l0_1.length c0_1,.slice A0_2 l0_2.length c0_2,.slice A0_3 l0_3.length c0_3,.slice A0_4 l0_4.length c0_4]) (t:=26) ?hr ?_;(case hd=>rfl);(case hg=>rfl);(case hr=>first|(go_simp;done)|(go_simp;rfl));intro gb770 hg w30 hbox hb;have n0_:=Ak (below_step (by repeat (first|(with_reducible first|exact HB.out|apply below_alloc|apply pw_below_drewN|apply below_drew1)|exact HB.out)) hb);have n1_:=Ak (hbox);have n2_:=Ak ((by rw [hg];exact (below_size (by repeat (first|(with_reducible first|exact HB.out|apply below_alloc|apply pw_below_drewN|apply below_drew1)|exact HB.out))):w.heap.size≤gb770));have n3_:=Ak ((by rw [hg];exact (below_size (by repeat (first|(with_reducible first|exact HB.out|apply below_alloc|apply pw_below_drewN|apply below_drew1)|exact HB.out))):w.heap.size≤gb770));clear HB;have HB:=n0_;have BK770:=n1_;have GW770:=n2_;have GE770:=n3_;clear n0_ n1_ n2_ n3_;clear hb hbox hg)|((with_reducible refine gate_dst (N:=2) rfl ?_);refine box_event ?hg (N:=2) ?hd (cs:=#[.slice none 0 0,.slice none 0 0,.slice none 0 0,.slice none 0 0,.slice none 0 0]) (t:=26) ?hr ?_;(case hd=>rfl);(case hg=>rfl);(case hr=>first|(go_simp;done)|(go_simp;rfl));intro gb771 hg w31 hbox hb;have n0_:=Ak (blk_below (g:=gb770) (o:=.cells #[.slice A0_0 l0_0.length c0_0,.slice A0_1 l0_1.length c0_1,.slice A0_2 l0_2.length c0_2,.slice A0_3 l0_3.length c0_3,.slice A0_4 l0_4.length c0_4] 26 (0,0)) (by (with_reducible repeat (first|refine blk_drewN ?_ _|refine blk_drew ?_|refine blk_alloc ?_ _));exact BK770.out) hb);have n1_:=Ak (below_step (by repeat (first|(with_reducible first|exact HB.out|apply below_alloc|apply pw_below_drewN|apply below_drew1|refine below_set ?_ GE770.out)|exact HB.out)) hb);have n2_:=Ak (hbox);have n3_:=Ak ((by rw [hg];exact (below_size (by repeat (first|(with_reducible first|exact HB.out|apply below_alloc|apply pw_below_drewN|apply below_drew1|refine below_set ?_ GE770.out)|exact HB.out))):w.heap.size≤gb771));have n4_:=Ak ((by rw [hg];exact (below_size (by repeat (first|(with_reducible first|exact HB.out|apply below_alloc|apply pw_below_drewN|apply below_drew1|refine below_set ?_ GE770.out)|exact HB.out))):w.heap.size≤gb771));have n5_:=Ak ((by rw [hg];exact Nat.ne_of_lt (blk_lt (g:=gb770) (o:=.cells #[.slice A0_0 l0_0.length c0_0,.slice A0_1 l0_1.length c0_1,.slice A0_2 l0_2.length c0_2,.slice A0_3 l0_3.length c0_3,.slice A0_4 l0_4.length c0_4] 26 (0,0)) (by (with_reducible repeat (first|refine blk_drewN ?_ _|refine blk_drew ?_|refine blk_alloc ?_ _));exact BK770.out)):gb770 ≠ gb771));have n6_:=Ak ((by rw [hg];exact Nat.ne_of_gt (blk_lt (g:=gb770) (o:=.cells #[.slice A0_0 l0_0.length c0_0,.slice A0_1 l0_1.length c0_1,.slice A0_2 l0_2.length c0_2,.slice A0_3 l0_3.length c0_3,.slice A0_4 l0_4.length c0_4] 26 (0,0)) (by (with_reducible repeat (first|refine blk_drewN ?_ _|refine blk_drew ?_|refine blk_alloc ?_ _));exact BK770.out)):gb771 ≠ gb770));clear BK770;clear HB;have BK770:=n0_;have HB:=n1_;have BK771:=n2_;have GW771:=n3_;have GE771:=n4_;have NB770_771:=n5_;have NB771_770:=n6_;clear n0_ n1_ n2_ n3_ n4_ n5_ n6_;clear hb hbox hg;have hnb32:=NB770_771.out;have hnc32:=NB771_770.out;have hcz33_0:w31.cell? ⟨gb770,0,none⟩=some (.slice A0_0 l0_0.length c0_0):=(blk_cell BK770.out 0).trans rfl;have hcz33_1:w31.cell? ⟨gb770,1,none⟩=some (.slice A0_1 l0_1.length c0_1):=(blk_cell BK770.out 1).trans rfl;have hcz33_2:w31.cell? ⟨gb770,2,none⟩=some (.slice A0_2 l0_2.length c0_2):=(blk_cell BK770.out 2).trans rfl;have hcz33_3:w31.cell? ⟨gb770,3,none⟩=some (.slice A0_3 l0_3.length c0_3):=(blk_cell BK770.out 3).trans rfl;have hcz33_4:w31.cell? ⟨gb770,4,none⟩=some (.slice A0_4 l0_4.length c0_4):=(blk_cell BK770.out 4).trans rfl;have hfz33_0:=blk_frozen BK770.out 0;have hfz33_1:=blk_frozen BK770.out 1;have hfz33_2:=blk_frozen BK770.out 2;have hfz33_3:=blk_frozen BK770.out 3;have hfz33_4:=blk_frozen BK770.out 4)|((with_reducible refine gate_callee (f:=23) rfl ?_);refine goesL_ (some 4) rfl rfl Try.func23 (by kernel_rfl) rfl #[.agg #[.slice A0_0 l0_0.length c0_0,.slice A0_1 l0_1.length c0_1,.slice A0_2 l0_2.length c0_2,.slice A0_3 l0_3.length c0_3,.slice A0_4 l0_4.length c0_4]] rfl (by (try simp only [List.map_toArray,List.map_cons,List.map_nil]);first|done|rfl|(simp only [List.length_drop,List.length_take];rfl)) ?_;(with_reducible refine (impl_StoreOk.calls k _ _ l0_0 _ _ l0_1 _ _ l0_2 _ _ l0_3 _ _ l0_4 false _ ?side1 ?side2 ?side3 ?side4 ?side5 ?side6 ?side7 ?side8 ?side9 ?side10 A2.out).mono ?_);(case side1=>repeat (first|exact (Kd.C_below HR0_0.out HB.out)|(with_reducible refine Kd.C_alloc ?_ _)|(with_reducible refine Kd.C_drewN ?_ _)|(with_reducible refine Kd.C_drew ?_)));(case side2=>exact HC0_0.out);(case side3=>repeat (first|exact (Kd.C_below HR0_1.out HB.out)|(with_reducible refine Kd.C_alloc ?_ _)|(with_reducible refine Kd.C_drewN ?_ _)|(with_reducible refine Kd.C_drew ?_)));(case side4=>exact HC0_1.out);(case side5=>repeat (first|exact (Kd.C_below HR0_2.out HB.out)|(with_reducible refine Kd.C_alloc ?_ _)|(with_reducible refine Kd.C_drewN ?_ _)|(with_reducible refine Kd.C_drew ?_)));(case side6=>exact HC0_2.out);(case side7=>repeat (first|exact (Kd.C_below HR0_3.out HB.out)|(with_reducible refine Kd.C_alloc ?_ _)|(with_reducible refine Kd.C_drewN ?_ _)|(with_reducible refine Kd.C_drew ?_)));(case side8=>exact HC0_3.out);(case side9=>repeat (first|exact (Kd.C_below HR0_4.out HB.out)|(with_reducible refine Kd.C_alloc ?_ _)|(with_reducible refine Kd.C_drewN ?_ _)|(with_reducible refine Kd.C_drew ?_)));(case side10=>exact HC0_4.out);rintro e w34 ⟨rfl,hb⟩;refine ⟨_,rfl,?_⟩;have n0_:=Ak (blk_below (g:=gb770) (o:=.cells #[.slice A0_0 l0_0.length c0_0,.slice A0_1 l0_1.length c0_1,.slice A0_2 l0_2.length c0_2,.slice A0_3 l0_3.length c0_3,.slice A0_4 l0_4.length c0_4] 26 (0,0)) (by (with_reducible repeat (first|refine blk_drewN ?_ _|refine blk_drew ?_|refine blk_alloc ?_ _));exact BK770.out) hb);have n1_:=Ak (blk_below (g:=gb771) (o:=.cells #[.slice none 0 0,.slice none 0 0,.slice none 0 0,.slice none 0 0,.slice none 0 0] 26 (0,0)) (by (with_reducible repeat (first|refine blk_drewN ?_ _|refine blk_drew ?_|refine blk_alloc ?_ _));exact BK771.out) hb);have n2_:=Ak (below_step (by repeat (first|(with_reducible first|exact HB.out|apply below_alloc|apply pw_below_drewN|apply below_drew1|refine below_set ?_ GE770.out|refine below_set ?_ GE771.out)|exact HB.out)) hb);clear BK770;clear BK771;clear HB;have BK770:=n0_;have BK771:=n1_;have HB:=n2_;clear n0_ n1_ n2_;(try clear hb);(try clear hb2);(try clear hk);(try clear hi);have hcz35_0:w34.cell? ⟨gb771,0,none⟩=some (.slice none 0 0):=(blk_cell BK771.out 0).trans rfl;have hcz35_1:w34.cell? ⟨gb771,1,none⟩=some (.slice none 0 0):=(blk_cell BK771.out 1).trans rfl;have hcz35_2:w34.cell? ⟨gb771,2,none⟩=some (.slice none 0 0):=(blk_cell BK771.out 2).trans rfl;have hcz35_3:w34.cell? ⟨gb771,3,none⟩=some (.slice none 0 0):=(blk_cell BK771.out 3).trans rfl;have hcz35_4:w34.cell? ⟨gb771,4,none⟩=some (.slice none 0 0):=(blk_cell BK771.out 4).trans rfl;have hfz35_0:=blk_frozen BK771.out 0;have hfz35_1:=blk_frozen BK771.out 1;have hfz35_2:=blk_frozen BK771.out 2;have hfz35_3:=blk_frozen BK771.out 3;have hfz35_4:=blk_frozen BK771.out 4))
  refine bodyPost_ret (results_cell_row rfl _ _ gb771 26 #[.slice none 0 0,.slice none 0 0,.slice none 0 0,.slice none 0 0,.slice none 0 0] (0,0) _ rfl (by (with_reducible repeat (first|refine blk_drewN ?_ _|refine blk_drew ?_|refine blk_alloc ?_ _));refine blk_put (cs:=#[.slice none 0 0,.slice none 0 0,.slice none 0 0,.slice none 0 0,.slice none 0 0]) ?_ 4 _ rfl;(with_reducible repeat (first|refine blk_drewN ?_ _|refine blk_drew ?_|refine blk_alloc ?_ _));refine blk_put (cs:=#[.slice none 0 0,.slice none 0 0,.slice none 0 0,.slice none 0 0,.slice none 0 0]) ?_ 3 _ rfl;(with_reducible repeat (first|refine blk_drewN ?_ _|refine blk_drew ?_|refine blk_alloc ?_ _));refine blk_put (cs:=#[.slice none 0 0,.slice none 0 0,.slice none 0 0,.slice none 0 0,.slice none 0 0]) ?_ 2 _ rfl;(with_reducible repeat (first|refine blk_drewN ?_ _|refine blk_drew ?_|refine blk_alloc ?_ _));refine blk_put (cs:=#[.slice none 0 0,.slice none 0 0,.slice none 0 0,.slice none 0 0,.slice none 0 0]) ?_ 1 _ rfl;(with_reducible repeat (first|refine blk_drewN ?_ _|refine blk_drew ?_|refine blk_alloc ?_ _));refine blk_put (cs:=#[.slice none 0 0,.slice none 0 0,.slice none 0 0,.slice none 0 0,.slice none 0 0]) ?_ 0 _ rfl;(with_reducible repeat (first|refine blk_drewN ?_ _|refine blk_drew ?_|refine blk_alloc ?_ _));exact BK771.out) Try.underlying26 rfl (by kernel_rfl)) rfl ?_
  exact ⟨_,_,_,_,_,by first|rfl|(simp [errW_none,errW_some] <;> rfl)|(simp [*,errW_none,errW_some] <;> rfl),by first|exact Kd.R_nil _ _ _ _ _|exact Kd.N_nil _ _ _ _ _|exact Kd.V_nil _ _ _ _ _|exact Kd.Q_nil _ _ _ _ _|exact Kd.S_nil _ _ _ _ _,by first|exact Kd.R_nil _ _ _ _ _|exact Kd.N_nil _ _ _ _ _|exact Kd.V_nil _ _ _ _ _|exact Kd.Q_nil _ _ _ _ _|exact Kd.S_nil _ _ _ _ _,by first|exact Kd.R_nil _ _ _ _ _|exact Kd.N_nil _ _ _ _ _|exact Kd.V_nil _ _ _ _ _|exact Kd.Q_nil _ _ _ _ _|exact Kd.S_nil _ _ _ _ _,by first|exact Kd.R_nil _ _ _ _ _|exact Kd.N_nil _ _ _ _ _|exact Kd.V_nil _ _ _ _ _|exact Kd.Q_nil _ _ _ _ _|exact Kd.S_nil _ _ _ _ _,by first|exact Kd.R_nil _ _ _ _ _|exact Kd.N_nil _ _ _ _ _|exact Kd.V_nil _ _ _ _ _|exact Kd.Q_nil _ _ _ _ _|exact Kd.S_nil _ _ _ _ _,by repeat (first|(with_reducible first|exact HB.out|apply below_alloc|apply pw_below_drewN|apply below_drew1|refine below_set ?_ GE770.out|refine below_set ?_ GE771.out)|exact HB.out)⟩
end Go.Proofs.Ytmekkapacbdbeaa.P
